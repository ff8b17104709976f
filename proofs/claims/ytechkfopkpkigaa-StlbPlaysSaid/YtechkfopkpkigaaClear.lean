/-
  A slice's end, and clear. Nothing of one program stands here.
-/
import Derived.Test.YtechkfopkpkigaaKit
import Derived.Test.YtechkfopkpkigaaMove
namespace Go.Proofs.Ytechkfopkpkigaa
open Go.RowKit
set_option linter.unusedSimpArgs false
set_option linter.unusedVariables false

section
variable {P : Program} {S : World → Prop} {W0 : World} {N : FSz} {e : Env} {A R : List HP} {t ty : TypeId} {b off : Nat} {x : Operand} {l : List Value}
/-- x[l:], something left. -/
theorem v_sliceL {E n c sz o' : Nat} {k : IntKind} {i : Nat} {j1 : Int} (hu : P.underlying t = some (.slice E)) (hs : ∀ w, (sizeOf E).run P w = .ok sz w) (hx : ev e x = some (.slice (some ⟨b, off, none⟩) n c))
    {lo : Operand} (h1 : ev e lo = some (.int k j1)) (e1 : j1 = (i : Int)) (hil : i ≤ n) (hne : i < c) (ho : off + i * sz = o') :
    Val P S N e (.slice t x (some lo) none none) (.slice (some ⟨b, o', none⟩) (n - i) (c - i)) := fun a w _ _ _ _ _ hF _ => by
  subst e1; subst ho
  have hmi : ¬ c = i := by omega
  simp [execOp, Instr.sliceAt, Instr.slice, hF.eval hx, hF.eval h1, run_und hu, Instr.sliceBounds, run_bound hil, hs, hmi, add_none]
theorem v_sliceLg {E n c sz : Nat} {k : IntKind} {i : Nat} {j1 : Int} {a a' : Option Addr} (hu : P.underlying t = some (.slice E)) (hs : ∀ w, (sizeOf E).run P w = .ok sz w) (hx : ev e x = some (.slice a n c))
    {lo : Operand} (h1 : ev e lo = some (.int k j1)) (e1 : j1 = (i : Int)) (hil : i ≤ n) (ha : sliA a c i sz = a') :
    Val P S N e (.slice t x (some lo) none none) (.slice a' (n - i) (c - i)) := fun act w _ _ _ _ _ hF _ => by
  subst e1; subst ha
  simp [execOp, Instr.sliceAt, Instr.slice, hF.eval hx, hF.eval h1, run_und hu, Instr.sliceBounds, run_bound hil, hs, sliA]
theorem zeroCells_len (z : Array Value) (n : Nat) : (Builtin.zeroCells z n).toList.length = n * z.size := by simp [Builtin.zeroCells]
theorem zeroCells_one (z : Array Value) (n : Nat) (hz : z.all Value.oneCell' = true) : ∀ v ∈ (Builtin.zeroCells z n).toList, v.oneCell' = true := fun v hv => by
  simp only [Builtin.zeroCells, Array.toList_map, List.mem_map, Array.toList_range, List.mem_range] at hv
  obtain ⟨i, hi, rfl⟩ := hv
  have hp : 0 < z.size := by
    rcases Nat.eq_zero_or_pos z.size with q | q
    · rw [q] at hi; simp at hi
    · exact q
  have hlt : i % z.size < z.size := Nat.mod_lt _ hp
  rw [getElem!_pos z (i % z.size) hlt]
  exact (Array.all_eq_true.1 hz) _ hlt
/-- clear of a slice, something in it -/
theorem d_clear {E n c : Nat} {z : Value} (hu : P.underlying t = some (.slice E)) (hz : ∀ w, (zeroValue E).run P w = .ok z w) (h1 : z.cells.all Value.oneCell' = true) (hx : ev e x = some (.slice (some ⟨b, off, none⟩) n c)) (hn : 0 < n)
    [h : Tk pt b A (cob l ty) R] (ho : off + n * z.cells.size ≤ l.length) :
    Does P W0 N e A (.call { callee := .builtin .clear, args := #[x], argTypes := #[t] }) (fun v B => ∃ vs : List Value, vs.length = n * z.cells.size ∧ v = .tuple #[] ∧ B = pt b (cob (setR l off vs) ty) :: R) := by
  intro a w dst ty' pos af g K Q hF hO k
  have hO' := hO.tk (r := pt) (b := b)
  obtain ⟨w', hst, hO''⟩ := storeCells_own (P := P) (off := off) (Builtin.zeroCells z.cells n).toList 0 hO' (by rw [zeroCells_len]; omega) (zeroCells_one _ _ h1)
  rw [Nat.add_zero] at hO''
  have hexec : (execOp a.eval { dst := dst, op := .call { callee := .builtin .clear, args := #[x], argTypes := #[t] }, type := ty', pos := pos, after := af, guard := g }).run P w = .ok (.value (.tuple #[])) w' := by
    obtain ⟨m, rfl⟩ : ∃ m, n = m + 1 := ⟨n - 1, by omega⟩
    simp only [execOp, resolve, invoke, builtin, Sem.run_bind, Sem.run_pure, Result.andThen_ok, List.map_toArray, List.map_cons, List.map_nil, hF.eval hx, Builtin.clear_, Array.getElem?_eq_getElem, List.getElem?_toArray, List.getElem?_cons_zero, run_und hu, hz, hst]
  unfold Oper.wp
  rw [hexec]
  exact k _ w' _ ⟨_, zeroCells_len _ _, rfl, rfl⟩ hO''
section
variable {rd : Option Nat} {Q : Exit → Act → World → Prop} {ops : Array Oper} {rest : List Oper} {pos : String} {af : Array Edge} {d : Nat} {y : Operand}
theorem x_ifct {xc yc : Code} (k : Run W0 N (xc.wpR rd P Q) e A) : Run W0 N ((Code.cond (.const (.bool true)) xc yc).wpR rd P Q) e A :=
  fun a w hF hO => wpIn_cond_true (hF.eval (x := .const (.bool true)) rfl) (k a w hF hO)
theorem x_ifcf {xc yc : Code} (k : Run W0 N (yc.wpR rd P Q) e A) : Run W0 N ((Code.cond (.const (.bool false)) xc yc).wpR rd P Q) e A :=
  fun a w hF hO => wpIn_cond_false (hF.eval (x := .const (.bool false)) rfl) (k a w hF hO)
/-- A byte of a text. -/
theorem v_idxStr {k : IntKind} {i : Int} {j : Nat} {s : ByteArray} (hu : P.underlying t = some .string) (hx : ev e x = some (.string s)) (hy : ev e y = some (.int k i)) (hi : i = (j : Int)) (hj : j < s.size) :
    Val P S N e (.index t x y) (.int .u8 (s[j]'hj).toNat) := fun a w _ _ _ _ _ hF _ => by
  subst hi
  have h1 : (0 : Int) ≤ (j : Int) := by omega
  simp only [execOp, Instr.index, Sem.run_bind, hF.eval hx, hF.eval hy, asIntOf, Sem.run_pure, Result.andThen_ok, run_und hu, if_pos h1, Int.toNat_natCast, getElem?_pos s j hj]
theorem s_idxStr {k : IntKind} {i : Int} {j : Nat} {s : ByteArray} (hd : Nat.blt d N.n = true) (hu : P.underlying t = some .string) (hx : ev e x = some (.string s)) (hy : ev e y = some (.int k i)) (hi : i = (j : Int)) (hj : j < s.size)
    (kk : ∀ m : Nat, m < 256 → Run W0 N (wpL rd P ops Q rest) ((d, .int .u8 m) :: e) A) :
    Run W0 N (wpL rd P ops Q ({ dst := some d, op := .index t x y, type := ty, pos := pos, after := af, guard := none } :: rest)) e A :=
  s_val hd (v_idxStr hu hx hy hi hj) (kk _ (UInt8.toNat_lt _))
end
end
end Go.Proofs.Ytechkfopkpkigaa
