/-
  Numbers in bytes, the lowest byte first. Plain Lean, no program.
-/
import Derived.Test.YteolepiendmhlaaGreatDoorBits
import Derived.Test.YteolepiendmhlaaGreatDoorPlus
namespace Go.Proofs.YteolepiendmhlaaGreatDoor
set_option linter.unusedSimpArgs false
set_option linter.unusedVariables false

def bV (b : Nat) : Value := .int .u8 (b : Int)
def byV (l : List Nat) : List Value := l.map bV
theorem byV_len (l : List Nat) : (byV l).length = l.length := by simp [byV]
theorem byV_get (l : List Nat) (i : Nat) (h : i < l.length) : (byV l)[i]? = some (bV l[i]) := by simp [byV, h]
theorem byV_append (a b : List Nat) : byV (a ++ b) = byV a ++ byV b := by simp [byV]
theorem byV_one (l : List Nat) : allOne (byV l) = true := by simp [allOne, byV, bV, Value.oneCell']
def By (l : List Nat) : Prop := ∀ b ∈ l, b < 256
theorem By.get {l : List Nat} (h : By l) {i : Nat} (hi : i < l.length) : l[i] < 256 := h _ (List.getElem_mem hi)

def leN : List Nat → Nat
  | [] => 0
  | b :: bs => b + 256 * leN bs
theorem leN_lt : ∀ {l : List Nat}, By l → leN l < 256 ^ l.length
  | [], _ => by simp [leN]
  | b :: bs, h => by
    have h1 := h b (by simp)
    have h2 := leN_lt (l := bs) fun x hx => h x (by simp [hx])
    simp only [leN, List.length_cons, Nat.pow_succ]; omega
theorem leN_snoc : ∀ (l : List Nat) (b : Nat), leN (l ++ [b]) = leN l + 256 ^ l.length * b
  | [], b => by simp [leN]
  | x :: l, b => by
    simp only [List.cons_append, leN, leN_snoc l b, List.length_cons, Nat.pow_succ]
    rw [Nat.mul_add, Nat.add_assoc, ← Nat.mul_assoc, Nat.mul_comm 256 (256 ^ l.length)]
theorem leN_take {l : List Nat} {i : Nat} (h : i < l.length) : leN (l.take (i + 1)) = leN (l.take i) + 256 ^ i * l[i] := by
  rw [List.take_succ_eq_append_getElem h, leN_snoc, List.length_take, Nat.min_eq_left (by omega)]
theorem By.take {l : List Nat} (h : By l) (i : Nat) : By (l.take i) := fun b hb => h b (List.mem_of_mem_take hb)
theorem By.drop {l : List Nat} (h : By l) (i : Nat) : By (l.drop i) := fun b hb => h b (List.mem_of_mem_drop hb)
theorem By.append {a b : List Nat} (h : By a) (k : By b) : By (a ++ b) := fun x hx => by
  rcases List.mem_append.1 hx with h' | h'
  · exact h x h'
  · exact k x h'
theorem pow256 (i : Nat) : 256 ^ i = 2 ^ (8 * i) := by rw [Nat.pow_mul]
theorem pow_le3 {i : Nat} (h : i ≤ 3) : 256 ^ i ≤ 16777216 := by
  match i, h with
  | 0, _ | 1, _ | 2, _ | 3, _ => decide
theorem shl_byte {b i : Nat} (hb : b < 256) (hi : i ≤ 3) : bShl .u32 (b : Int) ((8 * i : Nat) : Int) = ((256 ^ i * b : Nat) : Int) := by
  unfold bShl
  have h1 : min ((8 * i : Nat) : Int).toNat IntKind.u32.bits = 8 * i := by simp [IntKind.bits]; omega
  rw [h1]
  have h2 : (b : Int) * 2 ^ (8 * i) = ((256 ^ i * b : Nat) : Int) := by rw [pow256]; push_cast; exact Int.mul_comm _ _
  rw [h2]
  have := pow_le3 hi
  have h3 : 256 ^ i * b ≤ 16777216 * 255 := Nat.mul_le_mul this (by omega)
  exact w32u (by omega)
theorem or_byte {a b i : Nat} (ha : a < 256 ^ i) (hb : b < 256) (hi : i ≤ 3) : bOr .u32 (a : Int) ((256 ^ i * b : Nat) : Int) = ((a + 256 ^ i * b : Nat) : Int) := by
  have := pow_le3 hi
  have h3 : 256 ^ i * b ≤ 16777216 * 255 := Nat.mul_le_mul this (by omega)
  rw [bOr_u32 (by omega) (by omega)]
  congr 1
  rw [pow256] at ha ⊢
  have := Nat.two_pow_add_eq_or_of_lt (i := 8 * i) (b := a) ha b
  rw [Nat.or_comm, ← this, Nat.add_comm]
theorem add_byte {a b i : Nat} (ha : a < 256 ^ i) (hb : b < 256) (hi : i ≤ 3) : IntKind.wrap .u32 ((a : Int) + ((256 ^ i * b : Nat) : Int)) = ((a + 256 ^ i * b : Nat) : Int) := by
  have := pow_le3 hi
  have h3 : 256 ^ i * b ≤ 256 ^ i * 255 := Nat.mul_le_mul_left _ (by omega)
  have h4 : 256 ^ i * 256 ≤ 16777216 * 256 := Nat.mul_le_mul_right _ this
  rw [w32u (by omega)]; omega

/-- So many bytes of a number. -/
def leB (n w : Nat) : List Nat := (List.range n).map fun i => w / 256 ^ i % 256
theorem leB_len (n w : Nat) : (leB n w).length = n := by simp [leB]
theorem leB_by (n w : Nat) : By (leB n w) := fun b hb => by
  obtain ⟨i, _, rfl⟩ := List.mem_map.1 hb
  exact Nat.mod_lt _ (by decide)
theorem leB_succ (n w : Nat) : leB (n + 1) w = leB n w ++ [w / 256 ^ n % 256] := by simp [leB, List.range_succ]
theorem leN_leB : ∀ (n w : Nat), leN (leB n w) = w % 256 ^ n
  | 0, w => by simp [leB, leN, Nat.mod_one]
  | n + 1, w => by
    rw [leB_succ, leN_snoc, leN_leB n w, leB_len, Nat.pow_succ, Nat.mod_mul]
theorem byte_of {w i : Nat} (hi : 8 * i ≤ 32) : IntKind.wrap .u8 (bShr .u32 (w : Int) ((8 * i : Nat) : Int)) = ((w / 256 ^ i % 256 : Nat) : Int) := by
  rw [bShr_nat (by simpa [IntKind.bits] using hi), ← pow256]
  simp only [IntKind.wrap, IntKind.bits, IntKind.signed]
  simp
/-- The same list with a number in it. -/
def putB (l : List Nat) (at_ n w : Nat) : List Nat := l.take at_ ++ leB n w ++ l.drop (at_ + n)
theorem putB_len {l : List Nat} {at_ n w : Nat} (h : at_ + n ≤ l.length) : (putB l at_ n w).length = l.length := by simp [putB, leB_len]; omega
theorem putB_by {l : List Nat} {at_ n w : Nat} (h : By l) : By (putB l at_ n w) := ((h.take _).append (leB_by _ _)).append (h.drop _)
theorem setR_snoc : ∀ (vs l : List Value) (off : Nat) (v : Value), setR l off (vs ++ [v]) = (setR l off vs).set (off + vs.length) v
  | [], l, off, v => by simp [setR]
  | u :: vs, l, off, v => by
    rw [List.cons_append, setR, setR, setR_snoc vs]
    congr 1; simp; omega
theorem setR_byV {l : List Nat} {at_ n w : Nat} (h : at_ + n ≤ l.length) : setR (byV l) at_ (byV (leB n w)) = byV (putB l at_ n w) := by
  rw [setR_eq _ _ _ (by rw [byV_len, byV_len, leB_len]; exact h), byV_len, leB_len]
  simp [putB, byV, List.map_take, List.map_drop]
theorem setR_front : ∀ (vs a b : List Value) (off : Nat), off + vs.length ≤ a.length → setR (a ++ b) off vs = setR a off vs ++ b
  | [], a, b, off, _ => rfl
  | v :: vs, a, b, off, h => by
    simp only [List.length_cons] at h
    rw [setR, setR, List.set_append_left _ _ (by omega), setR_front vs _ b (off + 1) (by simp; omega)]
def inB (n : Nat) (at_ w : Int) : Bool := decide ((w = 1 ∨ w = 2 ∨ w = 4) ∧ 0 ≤ at_ ∧ at_ ≤ n ∧ w ≤ n - at_)
theorem inB_iff {n : Nat} {at_ w : Int} : inB n at_ w = true ↔ (w = 1 ∨ w = 2 ∨ w = 4) ∧ 0 ≤ at_ ∧ at_ ≤ n ∧ w ≤ n - at_ := by simp [inB]
theorem inB_nat {n : Nat} {at_ w : Int} (h : inB n at_ w = true) : ∃ i k : Nat, at_ = (i : Int) ∧ w = (k : Int) ∧ (k = 1 ∨ k = 2 ∨ k = 4) ∧ i + k ≤ n := by
  have := inB_iff.1 h
  exact ⟨at_.toNat, w.toNat, by omega, by omega, by omega, by omega⟩
end Go.Proofs.YteolepiendmhlaaGreatDoor
