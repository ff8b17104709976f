/-
  Layer 14 (pte): what its functions and the reference's come to.
-/
import Derived.Test.YtechkfopkpkigaaGreatBase
namespace Go.Proofs.YtechkfopkpkigaaGreat
open Go.RowKit
set_option linter.unusedSimpArgs false
set_option linter.unusedVariables false
set_option maxRecDepth 20000

def rightB (on : Bool) (r p : Int) : Bool := decide (0 ≤ r ∧ r ≤ 15 ∧ 0 ≤ p ∧ p ≤ 31 ∧ (on = true ∨ (r = 0 ∧ p = 0)))
def putN (on : Bool) (r p : Int) : Nat := if rightB on r p ∧ on then 1 + 2 * r.toNat + 256 * p.toNat else 0
theorem putN_yes {r p : Int} (h : rightB true r p = true) (hr : 0 ≤ r) (hp : 0 ≤ p) : ((putN true r p : Nat) : Int) = 1 + 2 * r + 256 * p := by
  simp only [putN, h, true_and, if_true]; omega
def putE (on : Bool) (r p : Int) : Int := if rightB on r p then 0 else 6

theorem shl_put {r : Int} (h : 0 ≤ r ∧ r ≤ 15) : bShl .u32 r 1 = 2 * r := by
  unfold bShl; rw [show (min (1 : Int).toNat IntKind.u32.bits) = 1 from rfl, show (2 : Int) ^ 1 = 2 from rfl]; rw [w32u (by omega)]; omega
theorem shl_put8 {p : Int} (h : 0 ≤ p ∧ p ≤ 31) : bShl .u32 p 8 = 256 * p := by
  unfold bShl; rw [show (min (8 : Int).toNat IntKind.u32.bits) = 8 from rfl, show (2 : Int) ^ 8 = 256 from rfl]; rw [w32u (by omega)]; omega
theorem or_put {r : Int} (h : 0 ≤ r ∧ r ≤ 15) : bOr .u32 1 (2 * r) = 1 + 2 * r := by
  obtain ⟨n, rfl⟩ := Int.eq_ofNat_of_zero_le h.1
  have hd : ∀ n, n < 16 → 1 ||| 2 * n = 1 + 2 * n := by decide
  have := bOr_u32 (a := 1) (b := 2 * n) (by omega) (by omega)
  rw [hd n (by omega)] at this
  simpa using this
theorem or_put2 {r p : Int} (h : 0 ≤ r ∧ r ≤ 15) (k : 0 ≤ p ∧ p ≤ 31) : bOr .u32 (1 + 2 * r) (256 * p) = 1 + 2 * r + 256 * p := by
  obtain ⟨n, rfl⟩ := Int.eq_ofNat_of_zero_le h.1
  obtain ⟨m, rfl⟩ := Int.eq_ofNat_of_zero_le k.1
  have e : (1 + 2 * n) ||| 256 * m = 1 + 2 * n + 256 * m := by
    have := Nat.two_pow_add_eq_or_of_lt (i := 8) (b := 1 + 2 * n) (by omega) m
    rw [Nat.or_comm, show 256 * m = 2 ^ 8 * m by omega, ← this]; omega
  have := bOr_u32 (a := 1 + 2 * n) (b := 256 * m) (by omega) (by omega)
  rw [e] at this
  simpa using this

theorem rightB_iff {on : Bool} {r p : Int} : rightB on r p = true ↔ (0 ≤ r ∧ r ≤ 15 ∧ 0 ≤ p ∧ p ≤ 31 ∧ (on = true ∨ (r = 0 ∧ p = 0))) := by simp [rightB]

/-! ### An entry of a word -/
def getF (w : Nat) : Int := if w % 2 = 0 then 4 else if w = w % 32 + 256 * (w / 256 % 32) then 0 else 5
def gOn (w : Nat) : Bool := decide (getF w = 0)
def gR (w : Nat) : Nat := if getF w = 0 then w / 2 % 16 else 0
def gP (w : Nat) : Nat := if getF w = 0 then w / 256 % 32 else 0
def gV (w : Nat) : Value := .agg #[.bool (gOn w), .int .i64 (gR w), .int .i64 (gP w)]

theorem bit0 {w : Nat} (h : w < 4294967296) : bAnd .u32 w 1 = ((w % 2 : Nat) : Int) := by
  have := bAnd_u32 (b := 1) h (by omega)
  rw [show w &&& 1 = w % 2 from and_low (n := 1)] at this
  exact this
theorem bits4 {w : Nat} (h : w < 4294967296) : bAnd .u32 w 15 = ((w % 16 : Nat) : Int) := by
  have := bAnd_u32 (b := 15) h (by omega)
  rw [show w &&& 15 = w % 16 from and_low (n := 4)] at this
  exact this
theorem bits5 {w : Nat} (h : w < 4294967296) : bAnd .u32 w 31 = ((w % 32 : Nat) : Int) := by
  have := bAnd_u32 (b := 31) h (by omega)
  rw [show w &&& 31 = w % 32 from and_low (n := 5)] at this
  exact this
theorem bitsNo {w : Nat} (h : w < 4294967296) : bAndNot .u32 w 7967 = ((w - (w % 32 + 256 * (w / 256 % 32)) : Nat) : Int) := by
  have := bAndNot_u32 (b := 7967) h (by omega)
  rw [and_mask] at this
  exact this
theorem shr1 {w : Nat} : bShr .u32 w 1 = ((w / 2 : Nat) : Int) := bShr_nat (s := 1) (by decide)
theorem shr8 {w : Nat} : bShr .u32 w 8 = ((w / 256 : Nat) : Int) := bShr_nat (s := 8) (by decide)
theorem rem2 {w : Nat} : (w : Int).tmod 2 = ((w % 2 : Nat) : Int) := rfl
theorem rem16 {w : Nat} : (w : Int).tmod 16 = ((w % 16 : Nat) : Int) := rfl
theorem rem32 {w : Nat} : (w : Int).tmod 32 = ((w % 32 : Nat) : Int) := rfl
theorem quo2 {w : Nat} (h : w < 4294967296) : IntKind.wrap .u32 ((w : Int).tdiv 2) = ((w / 2 : Nat) : Int) := by
  rw [show (w : Int).tdiv 2 = ((w / 2 : Nat) : Int) from rfl]; exact w32u (by omega)
theorem quo256 {w : Nat} (h : w < 4294967296) : IntKind.wrap .u32 ((w : Int).tdiv 256) = ((w / 256 : Nat) : Int) := by
  rw [show (w : Int).tdiv 256 = ((w / 256 : Nat) : Int) from rfl]; exact w32u (by omega)

theorem putN_get {w : Nat} : putN true ((w / 2 % 16 : Nat) : Int) ((w / 256 % 32 : Nat) : Int) = 1 + 2 * (w / 2 % 16) + 256 * (w / 256 % 32) := by
  have h : rightB true ((w / 2 % 16 : Nat) : Int) ((w / 256 % 32 : Nat) : Int) = true := rightB_iff.2 ⟨by omega, by omega, by omega, by omega, .inl rfl⟩
  simp only [putN, h, true_and, if_true, Int.toNat_natCast]
def tabP (w : Nat) : Int := if getF w = 0 ∧ gR w = 0 then gP w else 0
def tabF (w : Nat) : Int := if getF w = 0 then (if gR w = 0 then 0 else 5) else getF w
/-! ### A leaf's entry -/
theorem gR_lt (w : Nat) : gR w < 16 := by unfold gR; split <;> omega
theorem low3 {r : Nat} (h : r < 16) : bAnd .i64 r 7 = ((r % 8 : Nat) : Int) := by
  have : ∀ r : Nat, r < 16 → bAnd .i64 r 7 = ((r % 8 : Nat) : Int) := by decide
  exact this r h
theorem rem8 {r : Nat} : (r : Int).tmod 8 = ((r % 8 : Nat) : Int) := rfl
def leafNo (w : Nat) : Bool := decide (getF w = 0 ∧ gR w % 8 = 0)
def lfOn (w : Nat) : Bool := if leafNo w then false else gOn w
def lfR (w : Nat) : Nat := if leafNo w then 0 else gR w
def lfP (w : Nat) : Nat := if leafNo w then 0 else gP w
def leafV (w : Nat) : Value := .agg #[.bool (lfOn w), .int .i64 (lfR w), .int .i64 (lfP w)]
def leafF (w : Nat) : Int := if leafNo w then 5 else getF w
/-! ### What an entry allows -/
def needR (k : Int) : Int := if k = 0 then 4 else if k = 1 then 1 else if k = 2 then 2 else 0
def needOk (k : Int) : Bool := decide (k = 0 ∨ k = 1 ∨ k = 2)
def allB (on : Bool) (r : Int) (ns : List Int) : Bool := (ns.all fun c => bAnd .i64 r c == c) && on
/-- One of the four rights. -/
def bitR (r : Int) (c : Int) : Bool := bAnd .i64 r c == c
theorem bit64 (r : Int) (i : Nat) (hi : i < 63) : bAnd .i64 r (2 ^ i : Nat) = 0 ∨ bAnd .i64 r (2 ^ i : Nat) = (2 ^ i : Nat) := by
  have hp : 2 ^ i < 2 ^ 63 := Nat.pow_lt_pow_right (by omega) hi
  have hp0 : 0 < 2 ^ i := Nat.two_pow_pos i
  have e : BitVec.ofInt 64 ((2 ^ i : Nat) : Int) = BitVec.twoPow 64 i := by
    rw [ofInt_nat]; apply BitVec.eq_of_toNat_eq; simp only [BitVec.toNat_ofNat, BitVec.toNat_twoPow]
  have h : BitVec.ofInt 64 r &&& BitVec.ofInt 64 ((2 ^ i : Nat) : Int) = if (BitVec.ofInt 64 r).getLsbD i then BitVec.twoPow 64 i else 0#64 := by
    rw [e, BitVec.and_twoPow]
  have h' : bAnd .i64 r (2 ^ i : Nat) = IntKind.wrap .i64 (((BitVec.ofInt 64 r &&& BitVec.ofInt 64 ((2 ^ i : Nat) : Int)).toNat : Nat) : Int) := rfl
  rw [h', h]
  split
  · right
    rw [BitVec.toNat_twoPow, Nat.mod_eq_of_lt (by omega)]
    exact w64 ⟨by have : (0 : Int) ≤ ((2 ^ i : Nat) : Int) := Int.natCast_nonneg _; omega, by have : ((2 ^ i : Nat) : Int) < ((2 ^ 63 : Nat) : Int) := Int.ofNat_lt.2 hp; simpa using this⟩
  · left; rfl
theorem bit_ne (r : Int) (c : Int) (h : bAnd .i64 r c = 0 ∨ bAnd .i64 r c = c) (hc : c ≠ 0) : (bAnd .i64 r c != 0) = bitR r c := by
  unfold bitR
  rcases h with h | h <;> rw [h] <;> simp [hc]
  omega
theorem bit1 (r : Int) : bAnd .i64 r 1 = 0 ∨ bAnd .i64 r 1 = 1 := bit64 r 0 (by omega)
theorem bit2 (r : Int) : bAnd .i64 r 2 = 0 ∨ bAnd .i64 r 2 = 2 := bit64 r 1 (by omega)
theorem bit4 (r : Int) : bAnd .i64 r 4 = 0 ∨ bAnd .i64 r 4 = 4 := bit64 r 2 (by omega)
theorem bit8 (r : Int) : bAnd .i64 r 8 = 0 ∨ bAnd .i64 r 8 = 8 := bit64 r 3 (by omega)
theorem bit8_eq (r : Int) : bAnd .i64 r 8 = 0 ↔ bitR r 8 = false := by
  unfold bitR; rcases bit8 r with h | h <;> rw [h] <;> simp

end Go.Proofs.YtechkfopkpkigaaGreat
