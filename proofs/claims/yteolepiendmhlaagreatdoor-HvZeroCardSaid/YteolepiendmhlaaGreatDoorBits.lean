/-
  Numbers and bits, plain: what the model's words on bits come to for numbers in their bounds.
-/
import Derived.Test.YteolepiendmhlaaGreatDoorMem
namespace Go.Proofs.YteolepiendmhlaaGreatDoor

theorem ofInt_nat {n : Nat} (a : Nat) : BitVec.ofInt n (a : Int) = BitVec.ofNat n a := by
  simp

theorem toNat_and32 {a b : Nat} (ha : a < 4294967296) (hb : b < 4294967296) : (BitVec.ofNat 32 a &&& BitVec.ofNat 32 b).toNat = a &&& b := by
  simp only [BitVec.toNat_and, BitVec.toNat_ofNat]
  rw [Nat.mod_eq_of_lt (show a < 2 ^ 32 by omega), Nat.mod_eq_of_lt (show b < 2 ^ 32 by omega)]
theorem toNat_or32 {a b : Nat} (ha : a < 4294967296) (hb : b < 4294967296) : (BitVec.ofNat 32 a ||| BitVec.ofNat 32 b).toNat = a ||| b := by
  simp only [BitVec.toNat_or, BitVec.toNat_ofNat]
  rw [Nat.mod_eq_of_lt (show a < 2 ^ 32 by omega), Nat.mod_eq_of_lt (show b < 2 ^ 32 by omega)]
theorem bAnd_u32 {a b : Nat} (ha : a < 4294967296) (hb : b < 4294967296) : bAnd .u32 a b = ((a &&& b : Nat) : Int) := by
  have h : a &&& b < 4294967296 := Nat.lt_of_le_of_lt Nat.and_le_left ha
  show IntKind.wrap .u32 ((BitVec.ofInt 32 (a : Int) &&& BitVec.ofInt 32 (b : Int)).toNat : Int) = _
  rw [ofInt_nat, ofInt_nat, toNat_and32 ha hb]
  exact w32u (by omega)
theorem bOr_u32 {a b : Nat} (ha : a < 4294967296) (hb : b < 4294967296) : bOr .u32 a b = ((a ||| b : Nat) : Int) := by
  have h : a ||| b < 2 ^ 32 := Nat.or_lt_two_pow (by omega) (by omega)
  show IntKind.wrap .u32 ((BitVec.ofInt 32 (a : Int) ||| BitVec.ofInt 32 (b : Int)).toNat : Int) = _
  rw [ofInt_nat, ofInt_nat, toNat_or32 ha hb]
  exact w32u (by omega)
theorem bAndNot_u32 {a b : Nat} (ha : a < 4294967296) (hb : b < 4294967296) : bAndNot .u32 a b = ((a - (a &&& b) : Nat) : Int) := by
  have hle : a &&& b ≤ a := Nat.and_le_left
  have e : (BitVec.ofNat 32 a &&& ~~~ BitVec.ofNat 32 b).toNat = a - (a &&& b) := by
    have hz : (BitVec.ofNat 32 a &&& ~~~ BitVec.ofNat 32 b) &&& (BitVec.ofNat 32 a &&& BitVec.ofNat 32 b) = 0#32 := by
      ext i hi
      simp only [BitVec.getElem_and, BitVec.getElem_not, BitVec.getElem_zero]
      cases (BitVec.ofNat 32 a)[i] <;> cases (BitVec.ofNat 32 b)[i] <;> rfl
    have h1 : (BitVec.ofNat 32 a &&& ~~~ BitVec.ofNat 32 b) + (BitVec.ofNat 32 a &&& BitVec.ofNat 32 b) = BitVec.ofNat 32 a := by
      rw [BitVec.add_eq_or_of_and_eq_zero _ _ hz]
      ext i hi
      simp only [BitVec.getElem_or, BitVec.getElem_and, BitVec.getElem_not]
      cases (BitVec.ofNat 32 a)[i] <;> cases (BitVec.ofNat 32 b)[i] <;> rfl
    have h2 := congrArg BitVec.toNat h1
    rw [BitVec.toNat_add_of_and_eq_zero hz, toNat_and32 ha hb, BitVec.toNat_ofNat, Nat.mod_eq_of_lt (show a < 2 ^ 32 by omega)] at h2
    omega
  show IntKind.wrap .u32 ((BitVec.ofInt 32 (a : Int) &&& ~~~ BitVec.ofInt 32 (b : Int)).toNat : Int) = _
  rw [ofInt_nat, ofInt_nat, e]
  exact w32u (by omega)
theorem bShr_nat {k : IntKind} {a s : Nat} (hs : s ≤ k.bits) : bShr k a s = ((a / 2 ^ s : Nat) : Int) := by
  unfold bShr
  simp only [Int.toNat_natCast, Nat.min_eq_left hs]
  rw [Int.fdiv_eq_ediv_of_nonneg _ (by have := Int.pow_pos (n := (2 : Int)) (m := s) (by omega); omega)]
  push_cast; rfl
theorem and_low {a n : Nat} : a &&& (2 ^ n - 1) = a % 2 ^ n := Nat.and_two_pow_sub_one_eq_mod a n
theorem tmodN (a b : Nat) : (a : Int).tmod (b : Int) = ((a % b : Nat) : Int) := rfl
theorem tdivN (a b : Nat) : (a : Int).tdiv (b : Int) = ((a / b : Nat) : Int) := rfl

/-- Two pieces of bits. -/
theorem and_mask (a : Nat) : a &&& 7967 = a % 32 + 256 * (a / 256 % 32) := by
  have e : 7967 = 31 ||| (31 <<< 8) := by decide
  rw [e, Nat.and_or_distrib_left]
  have h1 : a &&& 31 = a % 32 := and_low (n := 5)
  have h2 : a &&& (31 <<< 8) = 256 * (a / 256 % 32) := by
    apply Nat.eq_of_testBit_eq
    intro i
    rw [show 256 * (a / 256 % 32) = (a / 2 ^ 8 % 2 ^ 5) <<< 8 by rw [Nat.shiftLeft_eq]; omega]
    rw [Nat.testBit_and, Nat.testBit_shiftLeft, Nat.testBit_shiftLeft, Nat.testBit_mod_two_pow, Nat.testBit_div_two_pow, show 31 = 2 ^ 5 - 1 by rfl, Nat.testBit_two_pow_sub_one]
    by_cases h : 8 ≤ i
    · have : i - 8 + 8 = i := by omega
      simp [h, this, Bool.and_comm]
    · simp [h]
  rw [h1, h2]
  have := Nat.two_pow_add_eq_or_of_lt (i := 8) (b := a % 32) (by omega) (a / 256 % 32)
  rw [Nat.or_comm, ← this]; omega

theorem and1_u8 {a : Nat} (h : a < 256) : bAnd .u8 (a : Int) 1 = ((a % 2 : Nat) : Int) := by
  have : ∀ a : Nat, a < 256 → bAnd .u8 (a : Int) 1 = ((a % 2 : Nat) : Int) := by decide +kernel
  exact this a h
end Go.Proofs.YteolepiendmhlaaGreatDoor
