/-
  Operations that read or write memory, calls, and how a function's body is entered and left. Nothing of one program stands here.
-/
import Derived.Test.YteolepiendmhlaaGreatDoorOps
namespace Go.Proofs.YteolepiendmhlaaGreatDoor
open Go.RowKit

/-! ### Lists that are written out -/

class SetL (l : List Value) (i : Nat) (v : Value) (l' : outParam (List Value)) : Prop where
  eq : l.set i v = l'
instance setL_zero {x v : Value} {l : List Value} : SetL (x :: l) 0 v (v :: l) := ⟨rfl⟩
instance setL_succ {x v : Value} {l l' : List Value} {i : Nat} [h : SetL l i v l'] : SetL (x :: l) (i + 1) v (x :: l') := ⟨by rw [List.set_cons_succ, h.eq]⟩

/-- Several cells from a place on. -/
def setR : List Value → Nat → List Value → List Value
  | l, _, [] => l
  | l, i, v :: vs => setR (l.set i v) (i + 1) vs
theorem setR_length : ∀ (vs l : List Value) (i : Nat), (setR l i vs).length = l.length
  | [], _, _ => rfl
  | v :: vs, l, i => by rw [setR, setR_length vs]; simp
class SetRL (l : List Value) (i : Nat) (vs : List Value) (l' : outParam (List Value)) : Prop where
  eq : setR l i vs = l'
instance setRL_nil {l : List Value} {i : Nat} : SetRL l i [] l := ⟨rfl⟩
instance setRL_cons {l l' l'' vs : List Value} {i : Nat} {v : Value} [h : SetL l i v l'] [k : SetRL l' (i + 1) vs l''] : SetRL l i (v :: vs) l'' := ⟨by rw [setR, h.eq, k.eq]⟩
theorem setR_all : ∀ (vs l p : List Value), vs.length = l.length → setR (p ++ l) p.length vs = p ++ vs
  | [], l, p, h => by
    have : l = [] := List.length_eq_zero_iff.1 h.symm
    subst this; rfl
  | v :: vs, [], p, h => by simp at h
  | v :: vs, x :: l, p, h => by
    rw [setR]
    have e1 : (p ++ x :: l).set p.length v = (p ++ [v]) ++ l := by simp
    rw [e1]
    have := setR_all vs l (p ++ [v]) (by simpa using h)
    simp only [List.length_append, List.length_cons, List.length_nil, Nat.zero_add] at this
    rw [this]; simp

class TakeL (l : List Value) (i n : Nat) (l' : outParam (List Value)) : Prop where
  eq : (l.drop i).take n = l'
instance takeL_nil {l : List Value} : TakeL l 0 0 [] := ⟨by simp⟩
instance takeL_cons {l l' : List Value} {n : Nat} {x : Value} [h : TakeL l 0 n l'] : TakeL (x :: l) 0 (n + 1) (x :: l') := ⟨by have := h.eq; simp at this; simp [this]⟩
instance takeL_drop {l l' : List Value} {i n : Nat} {x : Value} [h : TakeL l i n l'] : TakeL (x :: l) (i + 1) n l' := ⟨by rw [List.drop_succ_cons, h.eq]⟩

section
variable {rd : Option Nat} {P : Program} {S : World → Prop} {W0 : World} {N : FSz} {Q : Exit → Act → World → Prop} {e : Env} {A B R : List HP} {ops : Array Oper} {rest : List Oper}
variable {op : Op} {ty t : TypeId} {pos : String} {af : Array Edge} {v : Value} {d b off : Nat} {x y : Operand} {l l' vs : List Value}

/-- A cell reads so, in every world of S. -/
def Cell (S : World → Prop) (b off : Nat) (v : Value) : Prop := ∀ w, S w → w.cell? ⟨b, off, none⟩ = some v

theorem Own.tk {K X : Type} {r : K → X → HP} {w : World} {b : K} {x : X} (h : Own W0 w A) [k : Tk r b A x R] : Own W0 w (r b x :: R) := h.perm k.perm

theorem cell_own [h : Tk pt b A (cob l ty) R] (hv : l[off]? = some v) : Cell (OwnP W0 A) b off v := fun w (hO : Own W0 w A) => by
  have := (hO.tk (r := pt) (b := b)).has.2
  simp [World.cell?, this, hv]
theorem cell_base (h : W0.cell? ⟨b, off, none⟩ = some v) : Cell (OwnP W0 A) b off v := fun w (hO : Own W0 w A) => by
  have hb : b < W0.heap.size := by
    rcases Nat.lt_or_ge b W0.heap.size with k | k
    · exact k
    · simp [World.cell?, Array.getElem?_eq_none k] at h
  rw [← h]; simp [World.cell?, hO.base b hb]
theorem Cell.weak (h : Cell (OwnP W0 B) b off v) [k : Ent A B] : Cell (OwnP W0 A) b off v := fun w (hO : Own W0 w A) => h w (hO.ent k)

def Cells (S : World → Prop) (b off : Nat) (vs : List Value) : Prop := ∀ i v, vs[i]? = some v → Cell S b (off + i) v
theorem cells_own [h : Tk pt b A (cob l ty) R] (hv : (l.drop off).take vs.length = vs) : Cells (OwnP W0 A) b off vs := fun i v hi => by
  refine cell_own ?_
  have hlt : i < vs.length := by
    rcases Nat.lt_or_ge i vs.length with k | k
    · exact k
    · simp [List.getElem?_eq_none k] at hi
  rw [← hv] at hi
  rw [List.getElem?_take_of_lt hlt, List.getElem?_drop] at hi
  exact hi

theorem cells_part [h : Tk pt b A (cob l ty) R] {n : Nat} (hv : (l.drop off).take n = vs) (hn : vs.length = n) : Cells (OwnP W0 A) b off vs := cells_own (by rw [hn]; exact hv)

theorem add_none (n : Nat) : (⟨b, off, none⟩ : Addr).add n = ⟨b, off + n, none⟩ := by
  unfold Addr.add; split
  · rename_i h; subst h; rfl
  · rfl

theorem run_loadCells {w : World} (hc : ∀ i v, vs[i]? = some v → w.cell? ⟨b, off + i, none⟩ = some v) : ∀ (n i : Nat) (acc : Array Value), i + n = vs.length →
    (loadCellsFrom ⟨b, off, none⟩ i n acc).run P w = .ok (acc ++ (vs.drop i).toArray) w
  | 0, i, acc, h => by
    have : vs.drop i = [] := by rw [List.drop_eq_nil_iff]; omega
    simp [loadCellsFrom, this]
  | n + 1, i, acc, h => by
    have hi : i < vs.length := by omega
    have hcell := hc i vs[i] (by simp [hi])
    simp only [loadCellsFrom, Sem.run_bind, run_load, add_none, hcell, Result.andThen_ok]
    rw [run_loadCells hc n (i + 1) _ (by omega)]
    rw [List.drop_eq_getElem_cons hi]
    simp

theorem v_load (ha : ∀ w, (isAgg t).run P w = .ok false w) (hx : ev e x = some (.pointer (some ⟨b, off, none⟩))) (hc : Cell S b off v) : Val P S N e (.load t x) v := fun a w _ _ _ _ _ hF hO => by
  simp [execOp, Instr.loadAt, Instr.sureAddr, hF.eval hx, loadVar, ha, hc w hO]
theorem v_loadAgg {n : Nat} (ha : ∀ w, (isAgg t).run P w = .ok true w) (hs : ∀ w, (sizeOf t).run P w = .ok n w) (hx : ev e x = some (.pointer (some ⟨b, off, none⟩))) (hc : Cells S b off vs) (hn : vs.length = n) :
    Val P S N e (.load t x) (.agg vs.toArray) := fun a w _ _ _ _ _ hF hO => by
  have := run_loadCells (P := P) (w := w) (fun i v hi => hc i v hi w hO) n 0 #[] (by omega)
  simp [execOp, Instr.loadAt, Instr.sureAddr, hF.eval hx, loadVar, ha, hs, loadCells, this]
/-- The whole of a block. -/
theorem v_loadAll [h : Tk pt b A (cob l ty) R] {n : Nat} (ha : ∀ w, (isAgg t).run P w = .ok true w) (hs : ∀ w, (sizeOf t).run P w = .ok n w) (hx : ev e x = some (.pointer (some ⟨b, 0, none⟩))) (hn : l.length = n) :
    Val P (OwnP W0 A) N e (.load t x) (.agg l.toArray) :=
  v_loadAgg ha hs hx (cells_own (by simp)) hn
/-- Some cells of a block. -/
theorem v_loadPart [h : Tk pt b A (cob l ty) R] {n : Nat} (ha : ∀ w, (isAgg t).run P w = .ok true w) (hs : ∀ w, (sizeOf t).run P w = .ok n w) (hx : ev e x = some (.pointer (some ⟨b, off, none⟩))) (hv : (l.drop off).take n = vs) (hn : vs.length = n) :
    Val P (OwnP W0 A) N e (.load t x) (.agg vs.toArray) :=
  v_loadAgg ha hs hx (cells_own (by rw [hn]; exact hv)) hn

theorem setCell_own {w : World} (h : Own W0 w (pt b (cob l ty) :: R)) (v : Value) : Own W0 (w.setCell ⟨b, off, none⟩ v) (pt b (cob (l.set off v) ty) :: R) := by
  refine h.set rfl rfl rfl (by simp [World.setCell]) ?_ (fun k hk => Below.heap_setCell _ _ _ _ hk)
  have := h.has.2
  simp [World.setCell, Array.getElem?_modify, this, cob]

theorem run_store1 {w : World} (h : Own W0 w (pt b (cob l ty) :: R)) (ho : off < l.length) (h1 : v.oneCell' = true) : (store ⟨b, off, none⟩ v).run P w = .ok () (w.setCell ⟨b, off, none⟩ v) := by
  have hb := h.has.2
  rw [run_store P w _ v _ h1]
  have : w.cell? ⟨b, off, none⟩ = some l[off] := by simp [World.cell?, hb, ho]
  simp [this, World.frozen?, hb]

theorem cells_one (h1 : v.oneCell' = true) : v.cells = #[v] := by cases v <;> first | rfl | cases h1

/-- What an operation that acts does: some value, some memory. -/
def Does (P : Program) (W0 : World) (N : FSz) (e : Env) (A : List HP) (op : Op) (Post : Value → List HP → Prop) : Prop :=
  ∀ a w dst ty pos af g (K : Act → World → Prop) (Q : Exit → Act → World → Prop), Fr a N e → Own W0 w A → (∀ v w' B, Post v B → Own W0 w' B → K (a.put dst v) w') →
    Oper.wp P { dst := dst, op := op, type := ty, pos := pos, after := af, guard := g } a w K Q

theorem s_do {Post : Value → List HP → Prop} (hd : Nat.blt d N.n = true) (h : Does P W0 N e A op Post) (k : ∀ v B, Post v B → Run W0 N (wpL rd P ops Q rest) ((d, v) :: e) B) :
    Run W0 N (wpL rd P ops Q ({ dst := some d, op := op, type := ty, pos := pos, after := af, guard := none } :: rest)) e A := by
  intro a w hF hO
  simp only [wpL, wanted_none, if_true]
  exact .inl (h a w _ _ _ _ _ _ _ hF hO fun v w' B hp hO' => k v B hp _ _ (hF.put (Nat.lt_of_succ_le (Nat.le_of_ble_eq_true hd)) v) hO')
theorem s_do0 {Post : Value → List HP → Prop} (h : Does P W0 N e A op Post) (k : ∀ v B, Post v B → Run W0 N (wpL rd P ops Q rest) e B) :
    Run W0 N (wpL rd P ops Q ({ dst := none, op := op, type := ty, pos := pos, after := af, guard := none } :: rest)) e A := by
  intro a w hF hO
  simp only [wpL, wanted_none, if_true]
  exact .inl (h a w _ _ _ _ _ _ _ hF hO fun v w' B hp hO' => k v B hp _ _ hF hO')

theorem does_run {Post : Value → List HP → Prop} (h : ∀ a w dst ty pos af g, Fr a N e → Own W0 w A → ∃ v w' B, ((execOp a.eval { dst := dst, op := op, type := ty, pos := pos, after := af, guard := g }).run P w = .ok (.value v) w' ∨
      ((execOp a.eval { dst := dst, op := op, type := ty, pos := pos, after := af, guard := g }).run P w = .ok .skip w' ∧ v = undef)) ∧ Post v B ∧ Own W0 w' B) : Does P W0 N e A op Post := by
  intro a w dst ty pos af g K Q hF hO k
  obtain ⟨v, w', B, hr, hp, hO'⟩ := h a w dst ty pos af g hF hO
  unfold Oper.wp
  rcases hr with hr | ⟨hr, rfl⟩
  · rw [hr]; exact k v w' B hp hO'
  · rw [hr]; exact k _ w' B hp hO'

/-- What only reads, as an act. -/
theorem d_val (h : Val P (OwnP W0 A) N e op v) : Does P W0 N e A op (fun u B => u = v ∧ B = A) := does_run fun a w _ _ _ _ _ hF hO =>
  ⟨v, w, A, .inl (h a w _ _ _ _ _ hF hO), ⟨rfl, rfl⟩, hO⟩
theorem d_store [h : Tk pt b A (cob l ty) R] (hs : ∀ w, (sizeOf t).run P w = .ok 1 w) (hx : ev e x = some (.pointer (some ⟨b, off, none⟩))) (hy : ev e y = some v)
    (h1 : v.oneCell' = true) (ho : off < l.length) (hl : l.set off v = l') : Does P W0 N e A (.store t x y) (fun _ B => B = pt b (cob l' ty) :: R) := does_run fun a w _ _ _ _ _ hF hO => by
  have hO' := hO.tk (r := pt) (b := b)
  refine ⟨undef, w.setCell ⟨b, off, none⟩ v, _, .inr ⟨?_, rfl⟩, rfl, hl ▸ setCell_own hO' v⟩
  simp [execOp, Instr.storeAt, Instr.sureAddr, hF.eval hx, hF.eval hy, storeVar, hs, cells_one h1, storeCells, add_none, run_store1 hO' ho h1]

theorem storeCells_own : ∀ (vs : List Value) {l : List Value} {w : World} (i : Nat), Own W0 w (pt b (cob l ty) :: R) → off + i + vs.length ≤ l.length → (∀ v ∈ vs, v.oneCell' = true) →
    ∃ w', (storeCells ⟨b, off, none⟩ vs i).run P w = .ok () w' ∧ Own W0 w' (pt b (cob (setR l (off + i) vs) ty) :: R)
  | [], l, w, i, h, _, _ => ⟨w, by simp [storeCells], h⟩
  | v :: vs, l, w, i, h, hlen, h1 => by
    simp only [List.length_cons] at hlen
    have hr := run_store1 (P := P) h (off := off + i) (by omega) (h1 v (by simp))
    obtain ⟨w', hr', ho'⟩ := storeCells_own vs (i + 1) (setCell_own (off := off + i) h v) (by simp; omega) (fun u hu => h1 u (by simp [hu]))
    refine ⟨w', ?_, ho'⟩
    simp only [storeCells, Sem.run_bind, add_none, hr, Result.andThen_ok, hr']

def allOne (vs : List Value) : Bool := vs.all (·.oneCell')

theorem d_storeAgg {n : Nat} [h : Tk pt b A (cob l ty) R] (hs : ∀ w, (sizeOf t).run P w = .ok n w) (hx : ev e x = some (.pointer (some ⟨b, off, none⟩))) (hy : ev e y = some (.agg vs.toArray))
    (hn : vs.length = n) (h1 : allOne vs = true) (ho : off + n ≤ l.length) (hl : setR l off vs = l') : Does P W0 N e A (.store t x y) (fun _ B => B = pt b (cob l' ty) :: R) := does_run fun a w _ _ _ _ _ hF hO => by
  have hO' := hO.tk (r := pt) (b := b)
  obtain ⟨w', hr, hO''⟩ := storeCells_own (P := P) (off := off) vs 0 hO' (by omega) (fun v hv => by simpa [allOne] using (List.all_eq_true.1 h1 v hv))
  rw [Nat.add_zero] at hO''
  refine ⟨undef, w', _, .inr ⟨?_, rfl⟩, rfl, hl ▸ hO''⟩
  simp [execOp, Instr.storeAt, Instr.sureAddr, hF.eval hx, hF.eval hy, storeVar, hs, Value.cells, hn, hr]
/-- A whole block is written. -/
theorem d_storeAll {n : Nat} [h : Tk pt b A (cob l ty) R] (hs : ∀ w, (sizeOf t).run P w = .ok n w) (hx : ev e x = some (.pointer (some ⟨b, 0, none⟩))) (hy : ev e y = some (.agg vs.toArray))
    (hn : vs.length = n) (h1 : allOne vs = true) (ho : l.length = n) : Does P W0 N e A (.store t x y) (fun _ B => B = pt b (cob vs ty) :: R) :=
  d_storeAgg hs hx hy hn h1 (by omega) (by simpa using setR_all vs l [] (by omega))

theorem d_new {o : Obj} {g : Nat → Value}
    (hrun : ∀ a w dst ty pos af g', Fr a N e → Own W0 w A → (execOp a.eval { dst := dst, op := op, type := ty, pos := pos, after := af, guard := g' }).run P w = .ok (.value (g w.heap.size)) { w with heap := w.heap.push o }) :
    Does P W0 N e A op (fun v B => ∃ b, v = g b ∧ B = pt b o :: A) := does_run fun a w _ _ _ _ _ hF hO =>
  ⟨_, _, _, .inl (hrun a w _ _ _ _ _ hF hO), ⟨w.heap.size, rfl, rfl⟩, hO.new o⟩

theorem d_allocA (hz : ∀ w, (zeroValue t).run P w = .ok (.agg l.toArray) w) : Does P W0 N e A (.alloc t) (fun v B => ∃ b, v = .pointer (some ⟨b, 0, none⟩) ∧ B = pt b (cob l t) :: A) :=
  d_new (g := fun b => .pointer (some ⟨b, 0, none⟩)) (fun a w _ _ _ _ _ hF _ => by simp [execOp, Instr.alloc, hz, newVar, newRow, Value.cells])
theorem d_alloc (hz : ∀ w, (zeroValue t).run P w = .ok v w) (h1 : v.oneCell' = true) : Does P W0 N e A (.alloc t) (fun u B => ∃ b, u = .pointer (some ⟨b, 0, none⟩) ∧ B = pt b (cob [v] t) :: A) :=
  d_new (g := fun b => .pointer (some ⟨b, 0, none⟩)) (fun a w _ _ _ _ _ hF _ => by simp [execOp, Instr.alloc, hz, newVar, newRow, cells_one h1])
theorem d_boxA (hx : ev e x = some (.agg l.toArray)) : Does P W0 N e A (.box t x) (fun v B => ∃ b, v = .pointer (some ⟨b, 0, none⟩) ∧ B = pt b (cob l t) :: A) :=
  d_new (g := fun b => .pointer (some ⟨b, 0, none⟩)) (fun a w _ _ _ _ _ hF _ => by simp [execOp, Instr.box, hF.eval hx, newVar, newRow, Value.cells])
theorem d_box (hx : ev e x = some v) (h1 : v.oneCell' = true) : Does P W0 N e A (.box t x) (fun u B => ∃ b, u = .pointer (some ⟨b, 0, none⟩) ∧ B = pt b (cob [v] t) :: A) :=
  d_new (g := fun b => .pointer (some ⟨b, 0, none⟩)) (fun a w _ _ _ _ _ hF _ => by simp [execOp, Instr.box, hF.eval hx, newVar, newRow, cells_one h1])

/-! ### Building a struct -/

/-- The parts of a struct are filled in. -/
def Fil (P : Program) (fs : List Field) (e : Env) (l : List Value) (ps : List (Nat × Operand)) (l' : List Value) : Prop :=
  ∀ (a : Act), (∀ x v, ev e x = some v → a.eval x = v) → ∀ (pl : Nat → Option (Nat × Nat)), (∀ i f, fs[i]? = some f → ∃ n, pl i = some (f.offset, n) ∧ ∀ w, (sizeOf f.type).run P w = .ok n w) →
    Instr.fill pl l.toArray (ps.map fun (i, x) => (i, a.eval x)) = some l'.toArray

theorem foldl_set : ∀ (vs : List Value) (l : List Value) (off : Nat), (vs.toArray.zipIdx.foldl (fun cs (c, j) => cs.setIfInBounds (off + j) c) l.toArray) = (setR l off vs).toArray := by
  intro vs
  suffices h : ∀ (vs : List Value) (l : List Value) (off s : Nat), (vs.zipIdx s).foldl (fun (cs : Array Value) (x : Value × Nat) => cs.setIfInBounds (off + x.2) x.1) l.toArray = (setR l (off + s) vs).toArray by
    intro l off
    have := h vs l off 0
    rw [← Array.foldl_toList]
    simpa using this
  intro vs
  induction vs with
  | nil => intro l off s; rfl
  | cons v vs ih =>
    intro l off s
    rw [List.zipIdx_cons, List.foldl_cons, setR]
    have := ih (l.set (off + s) v) off (s + 1)
    rw [← Nat.add_assoc] at this
    simpa using this

theorem fil_nil {fs : List Field} : Fil P fs e l [] l := fun _ _ _ _ => rfl
theorem fil_scal {fs : List Field} {nm : String} {ft fo : Nat} {em : Bool} {tg pk : String} {bo i : Nat} {ps : List (Nat × Operand)} {l'' : List Value} (hf : fs[i]? = some ⟨nm, ft, fo, em, tg, pk, bo⟩) (hs : ∀ w, (sizeOf ft).run P w = .ok 1 w)
    (hx : ev e x = some v) (h1 : v.oneCell' = true) (ho : fo < l.length) (hl : l.set fo v = l') (r : Fil P fs e l' ps l'') : Fil P fs e l ((i, x) :: ps) l'' := by
  intro a ha pl hp
  obtain ⟨n, hpl, hn⟩ := hp i _ hf
  have hn1 : n = 1 := by have := (hn default).symm.trans (hs default); simpa using this
  subst hn1
  have hv := ha x v hx
  simp only [List.map_cons, Instr.fill, hpl, hv, cells_one h1]
  have hc : ¬ (fo + 1 > l.length) := by omega
  simp [hc, hl]
  simpa using r a ha pl hp
theorem fil_agg {fs : List Field} {nm : String} {ft fo : Nat} {em : Bool} {tg pk : String} {bo i n : Nat} {ps : List (Nat × Operand)} {l'' : List Value} (hf : fs[i]? = some ⟨nm, ft, fo, em, tg, pk, bo⟩) (hs : ∀ w, (sizeOf ft).run P w = .ok n w)
    (hx : ev e x = some (.agg vs.toArray)) (hn : vs.length = n) (ho : fo + n ≤ l.length) (hl : setR l fo vs = l') (r : Fil P fs e l' ps l'') : Fil P fs e l ((i, x) :: ps) l'' := by
  intro a ha pl hp
  obtain ⟨m, hpl, hm⟩ := hp i _ hf
  have hmn : m = n := by have := (hm default).symm.trans (hs default); simpa using this
  subst hmn
  have hv := ha x _ hx
  simp only [List.map_cons, Instr.fill, hpl, hv, Value.cells]
  have hc : ¬ (fo + vs.length > l.length) := by omega
  have hc' : ¬ (vs.length ≠ m) := by omega
  simp only [List.size_toArray, hc, hc', decide_false, Bool.or_false, if_false, foldl_set, hl, Bool.false_eq_true]
  exact r a ha pl hp

def placeOf (f : Field) : Sem (Nat × Nat) := do pure (f.offset, ← sizeOf f.type)
theorem mapM_places {P : Program} {w : World} : ∀ (fs : List Field), (∀ f : Field, f ∈ fs → ∃ n, ∀ w, (sizeOf f.type).run P w = .ok n w) →
    ∃ ps : List (Nat × Nat), (fs.mapM placeOf).run P w = .ok ps w ∧
      ∀ (i : Nat) (f : Field), fs[i]? = some f → ∃ n, ps[i]? = some (f.offset, n) ∧ ∀ w, (sizeOf f.type).run P w = .ok n w
  | [], _ => ⟨[], by simp, fun i f h => by simp at h⟩
  | f :: fs, h => by
    obtain ⟨n, hn⟩ := h f (by simp)
    obtain ⟨ps, hps, hq⟩ := mapM_places fs (fun g hg => h g (by simp [hg]))
    refine ⟨(f.offset, n) :: ps, ?_, fun i g hi => ?_⟩
    · simp only [List.mapM_cons, placeOf, Sem.run_bind, hn, Result.andThen_ok, Sem.run_pure]
      rw [hps]; rfl
    · cases i with
      | zero => simp only [List.getElem?_cons_zero, Option.some.injEq] at hi; subst hi; exact ⟨n, rfl, hn⟩
      | succ i => exact hq i g (by simpa using hi)

/-- All fields' sizes are known. -/
def Sized (P : Program) (fs : List Field) : Prop := ∀ f : Field, f ∈ fs → ∃ n, ∀ w, (sizeOf f.type).run P w = .ok n w
theorem sized_nil : Sized P [] := fun _ h => nomatch h
theorem sized_cons {nm : String} {ft fo : Nat} {em : Bool} {tg pk : String} {bo n : Nat} {fs : List Field} (h : ∀ w, (sizeOf ft).run P w = .ok n w) (k : Sized P fs) : Sized P (⟨nm, ft, fo, em, tg, pk, bo⟩ :: fs) := fun f hf => by
  rcases List.mem_cons.1 hf with rfl | hf
  · exact ⟨n, h⟩
  · exact k f hf

theorem v_build {fs : Array Field} {ps : Array (Nat × Operand)} (hu : P.underlying t = some (.struct fs)) (hz : ∀ w, (zeroValue t).run P w = .ok (.agg l.toArray) w) (hs : Sized P fs.toList) (hf : Fil P fs.toList e l ps.toList l') :
    Val P S N e (.build t ps) (.agg l'.toArray) := fun a w _ _ _ _ _ hF _ => by
  obtain ⟨pls, hpl, hq⟩ := mapM_places (w := w) fs.toList hs
  have := hf a (fun x v h => hF.eval h) (fun i => pls.toArray[i]?) (fun i f h => by simpa using hq i f h)
  have hm : (fs.mapM placeOf).run P w = .ok pls.toArray w := by
    rw [Array.mapM_eq_mapM_toList, Sem.run_map, hpl]; rfl
  have hb : Instr.build t (ps.map fun (i, x) => (i, a.eval x)) = (do
      let zero := (← zeroValue t).cells
      match ← underlying t with
      | .struct fields =>
        let places ← fields.mapM placeOf
        let some cells := Instr.fill (places[·]?) zero (ps.map fun (i, x) => (i, a.eval x)).toList | stuck "build: no such field, or a part of the wrong size"
        pure (.agg cells)
      | .array _ elem =>
        let size ← sizeOf elem
        let some cells := Instr.fill (fun i => some (i * size, size)) zero (ps.map fun (i, x) => (i, a.eval x)).toList | stuck "build: a part of the wrong size"
        pure (.agg cells)
      | _ => stuck "build: struct or array type expected") := rfl
  simp only [execOp, hb, Sem.run_bind, hz, run_und hu, Result.andThen_ok, hm, Value.cells, Sem.run_pure]
  simp only [Array.toList_map]
  rw [this]; rfl

/-! ### A slice of what is written out -/
/-- The elements of a literal, each of one cell, all of them, in order. -/
def Els (e : Env) : Nat → List (Nat × Operand) → List Value → Prop
  | _, [], [] => True
  | i, (j, x) :: ps, v :: vs => j = i ∧ ev e x = some v ∧ v.oneCell' = true ∧ Els e (i + 1) ps vs
  | _, _, _ => False
theorem els_fill {a : Act} (he : ∀ x v, ev e x = some v → a.eval x = v) : ∀ (ps : List (Nat × Operand)) (vs done l : List Value), Els e done.length ps vs → l.length = vs.length →
    Instr.fill (fun i => some (i * 1, 1)) (done ++ l).toArray (ps.map fun (i, x) => (i, a.eval x)) = some (done ++ vs).toArray
  | [], [], done, l, _, hl => by
    have : l = [] := List.length_eq_zero_iff.1 hl
    subst this; rfl
  | [], _ :: _, _, _, h, _ => h.elim
  | _ :: _, [], _, _, h, _ => by cases h
  | (j, x) :: ps, v :: vs, done, [], _, hl => by cases hl
  | (j, x) :: ps, v :: vs, done, z :: l, h, hl => by
    obtain ⟨rfl, hx, h1, hr⟩ := h
    have hv := he x v hx
    simp only [List.map_cons, Instr.fill, hv, cells_one h1, List.size_toArray, List.length_cons, List.length_nil, Nat.zero_add, ne_eq, not_true_eq_false, decide_false, Bool.false_or, Nat.mul_one]
    have e1 : Array.foldl (fun cs (x : Value × Nat) => cs.setIfInBounds (done.length + x.2) x.1) (done ++ z :: l).toArray #[v].zipIdx = ((done ++ [v]) ++ l).toArray := by
      have := foldl_set [v] (done ++ z :: l) done.length
      simp only [setR] at this
      rw [show (#[v] : Array Value) = [v].toArray from rfl, this]
      simp
    rw [e1]
    have := els_fill he ps vs (done ++ [v]) l (by simpa using hr) (by simpa using hl)
    simp only [Nat.mul_one] at this
    rw [this]; simp

theorem els_of : ∀ (ps : List (Nat × Operand)) (i : Nat) (vs : List Value), evs e (ps.map (·.2)) = some vs → ps.map (·.1) = List.range' i ps.length → allOne vs = true → Els e i ps vs
  | [], _, vs, h, _, _ => by simp [evs] at h; subst h; trivial
  | (j, x) :: ps, i, vs, h, hi, h1 => by
    simp only [List.map_cons, evs] at h
    cases hv : ev e x with
    | none => rw [hv] at h; cases h
    | some v =>
      rw [hv] at h
      cases hvs : evs e (ps.map (·.2)) with
      | none => simp only [hvs] at h; cases h
      | some vs' =>
        simp only [hvs, Option.some.injEq] at h
        subst h
        simp only [List.map_cons, List.length_cons, List.range'_succ, List.cons.injEq] at hi
        simp only [allOne, List.all_cons, Bool.and_eq_true] at h1
        exact ⟨hi.1, hv, h1.1, els_of ps (i + 1) vs' hvs hi.2 h1.2⟩

theorem d_sliceLit {E n : Nat} {z : Value} {ps : Array (Nat × Operand)} (hu : P.underlying t = some (.slice E)) (hs : ∀ w, (sizeOf E).run P w = .ok 1 w) (hz : ∀ w, (zeroValue E).run P w = .ok z w) (hz1 : z.oneCell' = true)
    (hev : evs e (ps.toList.map (·.2)) = some vs) (hix : ps.toList.map (·.1) = List.range' 0 ps.toList.length) (ha1 : allOne vs = true) (hn : vs.length = n) (hn0 : n ≠ 0) (hn2 : n ≤ 1000) :
    Does P W0 N e A (.buildSlice t n ps) (fun v B => ∃ b, v = .slice (some ⟨b, 0, none⟩) n n ∧ B = pt b (cob vs E) :: A) :=
  d_new (g := fun b => .slice (some ⟨b, 0, none⟩) n n) (fun a w _ _ _ _ _ hF _ => by
    have hel := els_of ps.toList 0 vs hev hix ha1
    have hfl := els_fill (fun x v h => hF.eval h) ps.toList vs [] (List.replicate n z) (by simpa using hel) (by simpa using hn.symm)
    simp only [Nat.mul_one, List.nil_append] at hfl
    have hr : (Array.range n).map (fun i => (#[z] : Array Value)[i % (#[z] : Array Value).size]!) = (List.replicate n z).toArray := by
      apply Array.ext
      · simp
      · intro i h1 h2; simp [Nat.mod_one]
    have hbig : ¬ (n > 2 ^ 24) := by omega
    simp only [execOp, Instr.buildSlice, Sem.run_bind, run_und hu, Result.andThen_ok, hs, Nat.mul_one, Array.toList_map, Sem.run_ite, if_neg hbig, if_neg hn0, hz, Sem.run_pure, cells_one hz1, hr]
    rw [hfl]
    rfl)

/-! ### Calls -/

theorem d_call {f : FuncId} {xs : Array Operand} {ats : Array TypeId} {Post : Value → List HP → Prop} (hc : ∀ args w, (callFunc f args).run P w = .ok (.enter f args) w) (hx : evs e xs.toList = some vs)
    (hs : Spec P W0 f vs A Post) : Does P W0 N e A (.call { callee := .value (.func f), args := xs, argTypes := ats }) Post := by
  intro a w dst ty pos af g K Q hF hO k
  unfold Oper.wp
  rw [execOp_call_go]
  have he : (#[] ++ xs.map a.eval ++ #[] : Array Value) = vs.toArray := by
    have := hF.evals hx
    rw [← this]; apply Array.ext'; simp
  rw [he, hc]
  refine (hs w hO).mono ?_
  rintro _ w' ⟨v, B, rfl, hp, hO'⟩
  exact k v w' B hp hO'
theorem does_perm {Post : Value → List HP → Prop} (hp : A.Perm B) (h : Does P W0 N e B op Post) : Does P W0 N e A op Post :=
  fun a w dst ty pos af g K Q hF hO k => h a w dst ty pos af g K Q hF (hO.perm hp) k
theorem d_call1 {K1 X1 : Type} {r1 : K1 → X1 → HP} {b1 : K1} {x1 : X1} {f : FuncId} {xs : Array Operand} {ats : Array TypeId} {Post : Value → List HP → Prop} (hc : ∀ args w, (callFunc f args).run P w = .ok (.enter f args) w) (hx : evs e xs.toList = some vs)
    (hs : Spec P W0 f vs (r1 b1 x1 :: R) Post) [h1 : Tk r1 b1 A x1 R] : Does P W0 N e A (.call { callee := .value (.func f), args := xs, argTypes := ats }) Post :=
  does_perm h1.perm (d_call hc hx hs)
theorem d_call2 {K1 K2 X1 X2 : Type} {r1 : K1 → X1 → HP} {b1 : K1} {x1 : X1} {R1 : List HP} {r2 : K2 → X2 → HP} {b2 : K2} {x2 : X2} {f : FuncId} {xs : Array Operand} {ats : Array TypeId} {Post : Value → List HP → Prop} (hc : ∀ args w, (callFunc f args).run P w = .ok (.enter f args) w) (hx : evs e xs.toList = some vs)
    (hs : Spec P W0 f vs (r1 b1 x1 :: r2 b2 x2 :: R) Post) [h1 : Tk r1 b1 A x1 R1] [h2 : Tk r2 b2 R1 x2 R] : Does P W0 N e A (.call { callee := .value (.func f), args := xs, argTypes := ats }) Post :=
  does_perm (h1.perm.trans (h2.perm.cons _)) (d_call hc hx hs)
theorem d_call3 {K1 K2 K3 X1 X2 X3 : Type} {r1 : K1 → X1 → HP} {b1 : K1} {x1 : X1} {R1 : List HP} {r2 : K2 → X2 → HP} {b2 : K2} {x2 : X2} {R2 : List HP} {r3 : K3 → X3 → HP} {b3 : K3} {x3 : X3} {f : FuncId} {xs : Array Operand} {ats : Array TypeId} {Post : Value → List HP → Prop} (hc : ∀ args w, (callFunc f args).run P w = .ok (.enter f args) w) (hx : evs e xs.toList = some vs)
    (hs : Spec P W0 f vs (r1 b1 x1 :: r2 b2 x2 :: r3 b3 x3 :: R) Post) [h1 : Tk r1 b1 A x1 R1] [h2 : Tk r2 b2 R1 x2 R2] [h3 : Tk r3 b3 R2 x3 R] : Does P W0 N e A (.call { callee := .value (.func f), args := xs, argTypes := ats }) Post :=
  does_perm (h1.perm.trans ((h2.perm.trans (h3.perm.cons _)).cons _)) (d_call hc hx hs)

/-! ### A function's body -/

def zipE : Nat → List Value → Env
  | _, [] => []
  | i, v :: vs => (i, v) :: zipE (i + 1) vs
theorem get?_zipE : ∀ (vs : List Value) (i t : Nat) (v : Value), get? (zipE i vs) t = some v → ∃ j, t = i + j ∧ vs[j]? = some v
  | [], i, t, v, h => nomatch h
  | u :: vs, i, t, v, h => by
    by_cases c : i = t
    · subst c; rw [zipE, get?_cons_self] at h; exact ⟨0, rfl, by simpa using h⟩
    · rw [zipE, get?_cons_ne c] at h
      obtain ⟨j, rfl, hj⟩ := get?_zipE vs (i + 1) t v h
      exact ⟨j + 1, by omega, by simpa using hj⟩

/-- A loop over a function leaves a mark. -/
abbrev mark (D : Nat) : Deferred := { target := .collected D, args := #[] }
def RetQ (P : Program) (W0 : World) (fn : Func) (Post : Value → List HP → Prop) : Exit → Act → World → Prop
  | .normal, a, w => bodyPostM (FW none) 0 P fn (fun e w' => ∃ v B, e = .returned v ∧ Post v B ∧ Own W0 w' B) .normal a w
  | .ret, a, w => bodyPostM (FW none) 0 P fn (fun e w' => ∃ v B, e = .returned v ∧ Post v B ∧ Own W0 w' B) .ret a w
  | _, _, _ => False
theorem retQ_post {fn : Func} {Post : Value → List HP → Prop} {ex : Exit} {a : Act} {w : World} (h : RetQ P W0 fn Post ex a w) : bodyPostM (FW none) 0 P fn (fun e w' => ∃ v B, e = .returned v ∧ Post v B ∧ Own W0 w' B) ex a w := by
  cases ex <;> first | exact h | exact h.elim

theorem spec_body {n : Nat} {f : FuncId} {fn : Func} {c : Code} {Post : Value → List HP → Prop} (hf : P.funcs[f]? = some fn) (hN : fn.ntmps = n) (hb : fn.body = some c) (hl : Nat.ble vs.length n = true)
    (k : Run W0 ⟨n, []⟩ (c.wpR none P (RetQ P W0 fn Post)) (zipE 0 vs) A) : Spec P W0 f vs A Post := by
  intro w hO
  refine (callsR (rd := none) (n := 0)).1 (callsIn_of_wp_marks hf hb trivial (wpIn_mono (k _ w ⟨rfl, ?_, fun t v h => ?_⟩ hO) fun _ _ _ h => retQ_post h) rfl)
  · have := Nat.le_of_ble_eq_true hl
    simp [hN]; omega
  · obtain ⟨j, rfl, hj⟩ := get?_zipE _ _ _ _ h
    have hlt : j < vs.length := by
      rcases Nat.lt_or_ge j vs.length with k | k
      · exact k
      · simp [List.getElem?_eq_none k] at hj
    simp [hlt] at hj ⊢
    rw [Array.getElem?_append_left (by simpa using hlt)]
    simp [hlt, hj]

def resOf (a : Act) : ResultVar → Sem Value
  | .tmp t => pure (a.tmps.getD t undef)
  | .cell x t => do loadVar t (← asAddr (a.tmps.getD x undef))
/-- What the results read as. -/
def ResV (P : Program) (W0 : World) (N : FSz) (e : Env) (A : List HP) (r : ResultVar) (v : Value) : Prop :=
  ∀ a w, Fr a N e → Own W0 w A → (resOf a r).run P w = .ok v w
theorem r_tmp {t : Nat} (h : get? e t = some v) : ResV P W0 N e A (.tmp t) v := fun a w hF _ => by
  simp [resOf, Array.getD_eq_getD_getElem?, hF.at_ t v h]
theorem r_cell {x : Nat} (ha : ∀ w, (isAgg t).run P w = .ok false w) (hx : get? e x = some (.pointer (some ⟨b, off, none⟩))) (hc : Cell (OwnP W0 A) b off v) : ResV P W0 N e A (.cell x t) v := fun a w hF hO => by
  simp [resOf, Array.getD_eq_getD_getElem?, hF.at_ x _ hx, asAddr, loadVar, ha, hc w hO]
theorem r_all {x n : Nat} [h : Tk pt b A (cob l ty) R] (ha : ∀ w, (isAgg t).run P w = .ok true w) (hs : ∀ w, (sizeOf t).run P w = .ok n w) (hx : get? e x = some (.pointer (some ⟨b, 0, none⟩))) (hn : l.length = n) : ResV P W0 N e A (.cell x t) (.agg l.toArray) := fun a w hF hO => by
  have hc : Cells (OwnP W0 A) b 0 l := cells_own (by simp)
  have := run_loadCells (P := P) (w := w) (fun i v hi => hc i v hi w hO) n 0 #[] (by omega)
  simp [resOf, Array.getD_eq_getD_getElem?, hF.at_ x _ hx, asAddr, loadVar, ha, hs, loadCells, this]

inductive ResVs (P : Program) (W0 : World) (N : FSz) (e : Env) (A : List HP) : List ResultVar → List Value → Prop
  | nil : ResVs P W0 N e A [] []
  | cons {r : ResultVar} {v : Value} {rs : List ResultVar} {vs : List Value} : ResV P W0 N e A r v → ResVs P W0 N e A rs vs → ResVs P W0 N e A (r :: rs) (v :: vs)

theorem ResVs.run {rs : List ResultVar} {vs : List Value} (h : ResVs P W0 N e A rs vs) {a : Act} {w : World} (hF : Fr a N e) (hO : Own W0 w A) :
    (rs.mapM (resOf a)).run P w = .ok vs w := by
  induction h with
  | nil => simp
  | cons h1 _ ih =>
    rw [List.mapM_cons, Sem.run_bind, h1 a w hF hO, Result.andThen_ok, Sem.run_bind, ih]; rfl

def pack : List Value → Value
  | [v] => v
  | vs => .tuple vs.toArray

theorem ResVs.all {fn : Func} {vs : List Value} (hr : ResVs P W0 N e A fn.results.toList vs) {a : Act} {w : World} (hF : Fr a N e) (hO : Own W0 w A) : (results fn a.tmps).run P w = .ok (pack vs) w := by
  have := hr.run hF hO
  have hres : results fn a.tmps = (do
      let vs ← fn.results.mapM (resOf a)
      pure (if h : vs.size = 1 then vs[0] else .tuple vs)) := rfl
  rw [hres, Sem.run_bind, Array.mapM_eq_mapM_toList, Sem.run_map, this]
  simp only [Result.andThen_ok, Sem.run_pure]
  match vs with
  | [] => rfl
  | [v] => rfl
  | _ :: _ :: _ => rfl
theorem x_done {n : Nat} {fn : Func} {Post : Value → List HP → Prop} {vs : List Value} {ex : Exit} (hex : ex = .ret ∨ ex = .normal) (hr : ResVs P W0 ⟨n, []⟩ e A fn.results.toList vs) (hp : ∃ B, Post (pack vs) B ∧ Ent A B) : Run W0 ⟨n, []⟩ (Ex (RetQ P W0 fn Post) ex) e A := by
  intro a w hF hO
  obtain ⟨B, hB, hE⟩ := hp
  have hrun := hr.all hF hO
  have hd : a.defers = [] := hF.defers
  have : LeavesInM (FW none) 0 P fn a.tmps (fun e w' => ∃ v B, e = .returned v ∧ Post v B ∧ Own W0 w' B) a.defers .returning w := by
    rw [hd]; exact ⟨pack vs, hrun, pack vs, B, rfl, hB, hO.ent hE⟩
  rcases hex with rfl | rfl <;> exact this
/-- Behind a loop over a function. -/
theorem x_doneM {n D : Nat} {fn : Func} {Post : Value → List HP → Prop} {vs : List Value} {ex : Exit} (hex : ex = .ret ∨ ex = .normal) [h : Tk pt D A (.deferred (some [])) R] (hr : ResVs P W0 ⟨n, [mark D]⟩ e (pt D (.deferred none) :: R) fn.results.toList vs)
    (hp : ∃ B, Post (pack vs) B ∧ Ent (pt D (.deferred none) :: R) B) : Run W0 ⟨n, [mark D]⟩ (Ex (RetQ P W0 fn Post) ex) e A := by
  intro a w hF hO
  obtain ⟨B, hB, hE⟩ := hp
  have hO1 := hO.tk (r := pt) (b := D)
  have hK := hO1.has
  have hO2 : Own W0 (w.putObj D (.deferred none)) (pt D (.deferred none) :: R) :=
    hO1.set rfl rfl rfl (by simp) (World.putObj_heap_same (by
      rcases Nat.lt_or_ge D w.heap.size with q | q
      · exact q
      · have := hK.2; rw [Array.getElem?_eq_none q] at this; cases this)) (fun k hk => World.putObj_heap_other hk)
  have hrun := hr.all hF hO2
  have hd : a.defers = [mark D] := hF.defers
  have : LeavesInM (FW none) 0 P fn a.tmps (fun e w' => ∃ v B, e = .returned v ∧ Post v B ∧ Own W0 w' B) a.defers .returning w := by
    rw [hd]
    exact ⟨by simp, .inl ⟨D, _, rfl, run_takeDeferred hK.2, pack vs, hrun, pack vs, B, rfl, hB, hO2.ent hE⟩⟩
  rcases hex with rfl | rfl <;> exact this

/-! ### Elements -/

theorem v_idx {E n c j sz o' : Nat} {k : IntKind} {i : Int} (hu : P.underlying t = some (.slice E)) (hs : ∀ w, (sizeOf E).run P w = .ok sz w) (hx : ev e x = some (.slice (some ⟨b, off, none⟩) n c)) (hy : ev e y = some (.int k i))
    (hi : i = (j : Int)) (hj : j < n) (ho : off + j * sz = o') : Val P S N e (.indexAddr t x y) (.pointer (some ⟨b, o', none⟩)) := fun a w _ _ _ _ _ hF _ => by
  subst hi; subst ho
  simp [execOp, Instr.indexAt, hF.eval hx, hF.eval hy, asIntOf, run_und hu, hs, add_none]
  omega
theorem v_idxArr {E n j sz o' : Nat} {k : IntKind} {i : Int} (hu : P.underlying t = some (.array n E)) (hs : ∀ w, (sizeOf E).run P w = .ok sz w) (hx : ev e x = some (.pointer (some ⟨b, off, none⟩))) (hy : ev e y = some (.int k i))
    (hi : i = (j : Int)) (hj : j < n) (ho : off + j * sz = o') : Val P S N e (.indexAddr t x y) (.pointer (some ⟨b, o', none⟩)) := fun a w _ _ _ _ _ hF _ => by
  subst hi; subst ho
  simp [execOp, Instr.indexAt, hF.eval hx, hF.eval hy, asIntOf, run_und hu, hs, add_none, Instr.sureAddr]
  omega

end

theorem w64 {n : Int} (h : -9223372036854775808 ≤ n ∧ n < 9223372036854775808) : IntKind.wrap .i64 n = n := by
  simp only [IntKind.wrap, IntKind.bits, IntKind.signed]; simp; omega
theorem w32u {n : Int} (h : 0 ≤ n ∧ n < 4294967296) : IntKind.wrap .u32 n = n := by
  simp only [IntKind.wrap, IntKind.bits, IntKind.signed]; simp; omega
theorem w8u {n : Int} (h : 0 ≤ n ∧ n < 256) : IntKind.wrap .u8 n = n := by
  simp only [IntKind.wrap, IntKind.bits, IntKind.signed]; simp; omega
theorem w64u {n : Int} (h : 0 ≤ n ∧ n < 18446744073709551616) : IntKind.wrap .u64 n = n := by
  simp only [IntKind.wrap, IntKind.bits, IntKind.signed]; simp; omega

/-! ### What a test says -/
class BP (b : Bool) (p : outParam Prop) : Prop where
  iff : b = true ↔ p
instance bp_dec {p : Prop} [Decidable p] : BP (decide p) p := ⟨by simp⟩
instance bp_eq {m n : Int} : BP (m == n) (m = n) := ⟨by simp⟩
instance bp_ne {m n : Int} : BP (m != n) (m ≠ n) := ⟨by simp⟩
instance bp_beq {p q : Bool} : BP (p == q) (p = q) := ⟨by simp⟩
instance bp_not {b : Bool} {p : Prop} [h : BP b p] : BP (!b) (¬ p) := ⟨by rw [← h.iff]; simp⟩
instance bp_and {b c : Bool} {p q : Prop} [h : BP b p] [k : BP c q] : BP (b && c) (p ∧ q) := ⟨by rw [← h.iff, ← k.iff]; simp⟩
instance bp_or {b c : Bool} {p q : Prop} [h : BP b p] [k : BP c q] : BP (b || c) (p ∨ q) := ⟨by rw [← h.iff, ← k.iff]; simp⟩
instance bp_none {α : Type} {p : Option α} : BP p.isNone (p = none) := ⟨by simp⟩
instance (priority := low) bp_var {b : Bool} : BP b (b = true) := ⟨Iff.rfl⟩

section
variable {rd : Option Nat} {P : Program} {W0 : World} {N : FSz} {Q : Exit → Act → World → Prop} {e : Env} {A : List HP} {ops : Array Oper} {rest : List Oper} {op : Op} {ty : TypeId} {pos : String} {af : Array Edge}
theorem x_if {c : Nat} {p : Prop} {b : Bool} {xc yc : Code} (hv : get? e c = some (.bool b)) [h : BP b p]
    (ht : p → Run W0 N (xc.wpR rd P Q) ((c, .bool true) :: e) A) (hf : ¬ p → Run W0 N (yc.wpR rd P Q) ((c, .bool false) :: e) A) : Run W0 N ((Code.cond (.tmp c) xc yc).wpR rd P Q) e A :=
  x_cond rfl hv (fun hb => ht (h.iff.1 hb)) (fun hb => hf (fun k => by rw [h.iff.2 k] at hb; cases hb))
theorem x_ift {c : Nat} {xc yc : Code} (hv : get? e c = some (.bool true)) (k : Run W0 N (xc.wpR rd P Q) e A) : Run W0 N ((Code.cond (.tmp c) xc yc).wpR rd P Q) e A :=
  fun a w hF hO => wpIn_cond_true (hF.eval (x := .tmp c) hv) (k a w hF hO)
theorem x_iff {c : Nat} {xc yc : Code} (hv : get? e c = some (.bool false)) (k : Run W0 N (yc.wpR rd P Q) e A) : Run W0 N ((Code.cond (.tmp c) xc yc).wpR rd P Q) e A :=
  fun a w hF hO => wpIn_cond_false (hF.eval (x := .tmp c) hv) (k a w hF hO)
/-- A guard that wants yes. -/
theorem s_and {j t d : Nat} {b : Bool} {p : Prop} (ht : gtmp ops j = some t) (hv : get? e t = some (.bool b)) (hd : Nat.blt d N.n = true) [h : BP b p]
    (h1 : p → Run W0 N (wpL rd P ops Q ({ dst := some d, op := op, type := ty, pos := pos, after := af, guard := none } :: rest)) ((t, .bool true) :: e) A)
    (h2 : ¬ p → Run W0 N (wpL rd P ops Q rest) ((d, undef) :: (t, .bool false) :: e) A) :
    Run W0 N (wpL rd P ops Q ({ dst := some d, op := op, type := ty, pos := pos, after := af, guard := some (j, true) } :: rest)) e A :=
  s_guard (dst := some d) ht hv hd (fun hb => h1 (h.iff.1 hb)) (fun hb => h2 (fun k => by rw [h.iff.2 k] at hb; cases hb))
/-- A guard that wants no. -/
theorem s_or {j t d : Nat} {b : Bool} {p : Prop} (ht : gtmp ops j = some t) (hv : get? e t = some (.bool b)) (hd : Nat.blt d N.n = true) [h : BP b p]
    (h1 : p → Run W0 N (wpL rd P ops Q rest) ((d, undef) :: (t, .bool true) :: e) A)
    (h2 : ¬ p → Run W0 N (wpL rd P ops Q ({ dst := some d, op := op, type := ty, pos := pos, after := af, guard := none } :: rest)) ((t, .bool false) :: e) A) :
    Run W0 N (wpL rd P ops Q ({ dst := some d, op := op, type := ty, pos := pos, after := af, guard := some (j, false) } :: rest)) e A :=
  s_guard (dst := some d) ht hv hd (fun hb => h2 (fun k => by rw [h.iff.2 k] at hb; cases hb)) (fun hb => h1 (h.iff.1 hb))
end
end Go.Proofs.YteolepiendmhlaaGreatDoor
