/-
  Part 2 of the proof of HcallWho: rules, and walks of functions. Conditions: none.
-/
import Derived.Test.YtofillmoflhijaaGreatHcallWhoA
namespace Go.Proofs.YtofillmoflhijaaGreat
open Go.Proofs.Tryz
set_option linter.unusedSimpArgs false
set_option linter.unusedVariables false
set_option maxRecDepth 20000
set_option linter.defProp false
set_option synthInstance.maxSize 8192
set_option synthInstance.maxHeartbeats 2000000
variable {W0 : World} {R : List HP}
section
open Go.RowKit
theorem oD {a : Nat} (h : a < 9223372036854775808) : (BitVec.ofInt 64 (a : Int)).toNat = a := by
 rw [BitVec.toNat_ofInt]; omega
theorem uP {a b : Nat} (ha : a < 9223372036854775808) (hb : b < 9223372036854775808) : qk .i64 a b = ((a &&& b : Nat) : Int) := by
 have h : a &&& b < 9223372036854775808 := Nat.lt_of_le_of_lt Nat.and_le_left ha
 show IntKind.wrap .i64 ((BitVec.ofInt 64 (a : Int) &&& BitVec.ofInt 64 (b : Int)).toNat : Int) = _
 rw [BitVec.toNat_and, oD ha, oD hb, aZ (by omega)]
theorem zV {a b : Nat} (ha : a < 9223372036854775808) (hb : b < 9223372036854775808) : ql .i64 a b = ((a - (a &&& b) : Nat) : Int) := by
 have hle : a &&& b ≤ a := Nat.and_le_left
 generalize hx : BitVec.ofInt 64 (a : Int) = x
 generalize hy : BitVec.ofInt 64 (b : Int) = y
 have ex : x.toNat = a := by rw [← hx]; exact oD ha
 have ey : y.toNat = b := by rw [← hy]; exact oD hb
 have e : (x &&& ~~~ y).toNat = a - (a &&& b) := by
  have hz : (x &&& ~~~ y) &&& (x &&& y) = 0#64 := by
   ext i hi
   simp only [BitVec.getElem_and, BitVec.getElem_not, BitVec.getElem_zero]
   cases x[i] <;> cases y[i] <;> rfl
  have h1 : (x &&& ~~~ y) + (x &&& y) = x := by
   rw [BitVec.add_eq_or_of_and_eq_zero _ _ hz]
   ext i hi
   simp only [BitVec.getElem_or, BitVec.getElem_and, BitVec.getElem_not]
   cases x[i] <;> cases y[i] <;> rfl
  have h2 := congrArg BitVec.toNat h1
  rw [BitVec.toNat_add_of_and_eq_zero hz, BitVec.toNat_and x y, ex, ey] at h2
  omega
 show IntKind.wrap .i64 ((BitVec.ofInt 64 (a : Int) &&& ~~~ BitVec.ofInt 64 (b : Int)).toNat : Int) = _
 rw [hx, hy, e, aZ (by omega)]
def dG (l : Int) : Bool := decide (0 ≤ l ∧ l < 256)
theorem j0 {l : Int} : dG l = true ↔ 0 ≤ l ∧ l < 256 := by simp [dG]
def iL (a b : Int) : Bool := dG a && dG b && decide (a.toNat - (a.toNat &&& b.toNat) = 0)
theorem oE {a b : Int} (h : ¬ (dG a = true ∧ dG b = true)) : iL a b = false := by
 rw [← Bool.not_eq_true]; intro q
 simp only [iL, Bool.and_eq_true] at q
 exact h q.1
theorem uQ {a b : Nat} (ha : a < 256) : a - (a &&& b) = 0 ↔ ∀ c, c < 8 → a.testBit c = true → b.testBit c = true := by
 have hle : a &&& b ≤ a := Nat.and_le_left
 constructor
 intro h c _ hc
 have e : a &&& b = a := by omega
 have := congrArg (fun n => n.testBit c) e
 simp only [Nat.testBit_and, hc, Bool.true_and] at this
 exact this
 intro h
 have e : a &&& b = a := by
  apply Nat.eq_of_testBit_eq
  intro i
  rw [Nat.testBit_and]
  by_cases hi : i < 8
  cases ha' : a.testBit i with
  | false => rfl
  | true => rw [h i hi ha']; rfl
  have : a.testBit i = false := Nat.testBit_lt_two_pow (Nat.lt_of_lt_of_le ha (Nat.pow_le_pow_right (n := 2) (by decide) (show 8 ≤ i by omega)))
  rw [this]; rfl
 omega
theorem oF (l : Int) : aC Tryz.prog W0 264 [.int .i64 l] R (fun v B => v = .bool (dG l) ∧ B = R) := by
 refine aG func264 ntmps264 rfl rfl ?_
 refine ae (ah (aa rfl (ai rfl) (ag (ab (ae (ah (aa rfl (ac rfl) (aa rfl (cK rfl rfl) (aa rfl (ac rfl) ?_)))))))))
 refine cJ rfl rfl rfl ?_ ?_
 intro g1_3
 refine aa rfl (ac rfl) (ar rfl rfl (aa rfl (iH rfl rfl) (aa rfl (aY rfl rfl) (aa rfl (ai rfl) (ag (ab (av (au (.inl rfl) (.cons (ak rfl) .nil) ?_))))))))
 refine ⟨_, ⟨?_, rfl⟩, inferInstance⟩
 refine congrArg Value.bool ?_
 rw [Bool.eq_iff_iff]; simp only [dG, decide_eq_true_eq, Bool.false_eq_true, false_iff]; omega
 intro g1_3
 refine ap rfl rfl rfl rfl (aa rfl (aM rfl rfl) (aa rfl (ai rfl) (ag (ab (av (au (.inl rfl) (.cons (ak rfl) .nil) ?_))))))
 refine ⟨_, ⟨?_, rfl⟩, inferInstance⟩
 refine congrArg Value.bool ?_
 rw [Bool.eq_iff_iff]; simp only [dG, decide_eq_true_eq, Bool.false_eq_true, false_iff]; omega
theorem zW (a b : Int) : aC Tryz.prog W0 254 [.int .i64 a, .int .i64 b] R (fun v B => v = .bool (iL a b) ∧ B = R) := by
 refine aG func254 ntmps254 rfl rfl ?_
 refine ae (ah (aa rfl (ai rfl) (ag (ab (ae (ah (aa rfl (ac rfl) (am rfl (aU sX rfl (oF a)) ?_))))))))
 rintro _ B_ ⟨rfl, hB_⟩
 obtain rfl := hB_.symm
 refine aa rfl (ac rfl) ?_
 refine cJ rfl rfl rfl ?_ ?_
 intro g1_3
 refine aa rfl (ac rfl) (ar rfl rfl (am rfl (aU sX rfl (oF b)) ?_))
 rintro _ B_ ⟨rfl, hB_⟩
 obtain rfl := hB_.symm
 refine aa rfl (aY rfl rfl) (aa rfl (ac rfl) ?_)
 refine cJ rfl rfl rfl ?_ ?_
 intro g1_7
 obtain ⟨x, rfl, hx⟩ : ∃ x : Nat, a = (x : Int) ∧ x < 256 := ⟨a.toNat, by have := j0.1 g1_3; omega, by have := j0.1 g1_3; omega⟩
 obtain ⟨y, rfl, hy⟩ : ∃ y : Nat, b = (y : Int) ∧ y < 256 := ⟨b.toNat, by have := j0.1 g1_7; omega, by have := j0.1 g1_7; omega⟩
 refine aa rfl (ac rfl) (ar rfl rfl (aa rfl (ac rfl) (ar rfl rfl ?_)))
 refine aa rfl (yJ rfl rfl (zV (by omega) (by omega))) ?_
 refine ar rfl rfl (aa rfl (cu rfl rfl) (aa rfl (aY rfl rfl) (aa rfl (ai rfl) (ag (ab (av (au (.inl rfl) (.cons (ak rfl) .nil) ?_)))))))
 refine ⟨_, ⟨?_, rfl⟩, inferInstance⟩
 first
   | (rw [hno]; rfl)
   | (refine congrArg Value.bool ?_
      rw [Bool.eq_iff_iff, beq_iff_eq, iL, g1_3, g1_7, Int.toNat_natCast, Int.toNat_natCast]
      simp only [Bool.and_self, Bool.true_and, decide_eq_true_iff]
      omega)
 intro g1_7
 have hno := oE (a := a) (b := b) (fun q => g1_7 q.2)
 refine ap rfl rfl rfl rfl (ap rfl rfl rfl rfl (ap rfl rfl rfl rfl (aa rfl (aM rfl rfl) (aa rfl (ai rfl) (ag (ab (av (au (.inl rfl) (.cons (ak rfl) .nil) ?_))))))))
 refine ⟨_, ⟨?_, rfl⟩, inferInstance⟩
 first
   | (rw [hno]; rfl)
   | (refine congrArg Value.bool ?_
      rw [Bool.eq_iff_iff, beq_iff_eq, iL, g1_3, g1_7, Int.toNat_natCast, Int.toNat_natCast]
      simp only [Bool.and_self, Bool.true_and, decide_eq_true_iff]
      omega)
 intro g1_3
 have hno := oE (a := a) (b := b) (fun q => g1_3 q.1)
 refine ap rfl rfl rfl rfl (aa rfl (aM rfl rfl) (aa rfl (ac rfl) (ap rfl rfl rfl rfl (ap rfl rfl rfl rfl (ap rfl rfl rfl rfl (ap rfl rfl rfl rfl (aa rfl (aM rfl rfl) (aa rfl (ai rfl) (ag (ab (av (au (.inl rfl) (.cons (ak rfl) .nil) ?_))))))))))))
 refine ⟨_, ⟨?_, rfl⟩, inferInstance⟩
 first
   | (rw [hno]; rfl)
   | (refine congrArg Value.bool ?_
      rw [Bool.eq_iff_iff, beq_iff_eq, iL, g1_3, g1_7, Int.toNat_natCast, Int.toNat_natCast]
      simp only [Bool.and_self, Bool.true_and, decide_eq_true_iff]
      omega)
theorem uR (l : Int) : aC Tryz.prog W0 126 [.int .i64 l] R (fun v B => ∃ n : Int, v = .int .i64 n ∧ (decide (n < 0) = !dG l) ∧ B = R) := by
 refine aG func126 ntmps126 rfl rfl ?_
 refine ae (ah (aa rfl (ai rfl) (ag (ab (ae (ae (ah (aa rfl (ac rfl) (am rfl (aU sX rfl (oF l)) ?_)))))))))
 rintro _ B_ ⟨rfl, hB_⟩
 obtain rfl := hB_.symm
 refine aa rfl (bM rfl) (ag (ab ?_))
 refine aw rfl ?_ ?_
 intro c1
 refine ae (ah (aa rfl (ai rfl) (ag (ab (av (aE (au (.inl rfl) (.cons (ak rfl) .nil) ?_)))))))
 have h : dG l = false := by simpa using c1
 exact ⟨_, ⟨-1, rfl, by rw [h]; rfl, rfl⟩, inferInstance⟩
 intro c1
 have hl : dG l = true := Decidable.not_not.1 c1
 obtain ⟨x, rfl, hx⟩ : ∃ x : Nat, l = (x : Int) ∧ x < 256 := ⟨l.toNat, by have := j0.1 hl; omega, by have := j0.1 hl; omega⟩
 refine aB (ab (ae (ah (aa rfl (ai rfl) (ag (ab (ae (aW ?_))))))))
 refine cT (fun X : Nat × Nat => X.1 + X.2 ≤ 256) (fun X => [(0, .int .i64 X.1), (3, .int .i64 X.2)]) (fun X => R) (fun X => X.1) (x, 0) ?_ ?_ ?_ ?_
 show x + 0 ≤ 256; omega
 · repeat (first | exact aX | refine aV rfl ?_)
 exact inferInstance
 intro ⟨k, n⟩ hk
 dsimp only at hk ⊢
 refine ae (ae (ah (aa rfl (ac rfl) (aa rfl (bI rfl rfl) (ag (ab ?_))))))
 refine aw rfl ?_ ?_
 intro c4
 have hk0 : 0 < k := by omega
 have hlt : k &&& (k - 1) ≤ k - 1 := Nat.and_le_right
 refine aB (ab (ae (aW (ah (aa rfl (ac rfl) ?_)))))
 refine aa rfl (bF rfl rfl (by rw [aZ (by omega)]; omega : IntKind.wrap .i64 ((n : Int) + 1) = ((n + 1 : Nat) : Int))) ?_
 refine aa rfl (ai rfl) (ag (bH (ab (ah (aa rfl (ac rfl) (aa rfl (ac rfl) ?_))))))
 refine aa rfl (dX rfl rfl (by rw [aZ (by omega)]; omega : IntKind.wrap .i64 ((k : Int) - 1) = ((k - 1 : Nat) : Int))) ?_
 refine aa rfl (tP rfl rfl (uP (by omega) (by omega))) ?_
 refine aa rfl (ai rfl) (ag (ab ?_))
 refine cG (k &&& (k - 1), n + 1) ?_ ?_ ?_ ?_
 show (k &&& (k - 1)) + (n + 1) ≤ 256; omega
 show k &&& (k - 1) < k; omega
 · repeat (first | exact aX | refine aV rfl ?_)
 exact inferInstance
 intro c4
 refine cj (bi (bi (co (ab (ae (ah (aa rfl (ac rfl) (aa rfl (ai rfl) (ag (ab (av (au (.inl rfl) (.cons (ak rfl) .nil) ?_))))))))))))
 exact ⟨_, ⟨(n : Int), rfl, by rw [hl]; simp, rfl⟩, inferInstance⟩
theorem oG (l : Int) : aC Tryz.prog W0 195 [.int .i64 l] R (fun v B => v = .bool (dG l) ∧ B = R) := by
 refine aG func195 ntmps195 rfl rfl ?_
 refine ae (ah (aa rfl (ai rfl) (ag (ab (ae (ah (aa rfl (ac rfl) (aa rfl (cK rfl rfl) (aa rfl (ac rfl) ?_)))))))))
 refine cJ rfl rfl rfl ?_ ?_
 intro g1_3
 refine aa rfl (ac rfl) (ar rfl rfl (aa rfl (b0 rfl rfl) (aa rfl (aY rfl rfl) (aa rfl (ai rfl) (ag (ab (av (au (.inl rfl) (.cons (ak rfl) .nil) ?_))))))))
 refine ⟨_, ⟨?_, rfl⟩, inferInstance⟩
 refine congrArg Value.bool ?_
 rw [Bool.eq_iff_iff]; simp only [dG, decide_eq_true_eq, Bool.false_eq_true, false_iff]; omega
 intro g1_3
 refine ap rfl rfl rfl rfl (aa rfl (aM rfl rfl) (aa rfl (ai rfl) (ag (ab (av (au (.inl rfl) (.cons (ak rfl) .nil) ?_))))))
 refine ⟨_, ⟨?_, rfl⟩, inferInstance⟩
 refine congrArg Value.bool ?_
 rw [Bool.eq_iff_iff]; simp only [dG, decide_eq_true_eq, Bool.false_eq_true, false_iff]; omega
theorem uS (l c : Nat) (hl : l < 256) (hc : c < 8) : aC Tryz.prog W0 360 [.int .i64 l, .int .i64 c] R (fun v B => v = .bool (l.testBit c) ∧ B = R) := by
 have hd : l / 2 ^ c < 256 := Nat.lt_of_le_of_lt (Nat.div_le_self _ _) hl
 refine aG func360 ntmps360 rfl rfl ?_
 refine ae (ah (aa rfl (ai rfl) (ag (ab (ae (ah (aa rfl (ac rfl) (aa rfl (ac rfl) ?_))))))))
 refine aa rfl (o9 rfl rfl (by omega) (ol (k := .i64) (a := l) (s := c) (by show c ≤ 64; omega))) ?_
 refine aa rfl (tP rfl rfl (uP (a := l / 2 ^ c) (b := 1) (by omega) (by decide))) ?_
 refine aa rfl (cu rfl rfl) (aa rfl (ai rfl) (ag (ab (av (au (.inl rfl) (.cons (ak rfl) .nil) ?_)))))
 refine ⟨_, ⟨?_, rfl⟩, inferInstance⟩
 refine congrArg Value.bool ?_
 rw [Bool.eq_iff_iff, beq_iff_eq, show (l / 2 ^ c) &&& 1 = l / 2 ^ c % 2 from yT (a := l / 2 ^ c) (n := 1), Nat.testBit_eq_decide_div_mod_eq, decide_eq_true_iff]
 omega
theorem zX (a b : Int) : aC Tryz.prog W0 295 [.int .i64 a, .int .i64 b] R (fun v B => v = .bool (iL a b) ∧ B = R) := by
 refine aG func295 ntmps295 rfl rfl ?_
 refine ae (ah (aa rfl (ai rfl) (ag (ab (ae (ae (ah (aa rfl (ac rfl) (am rfl (aU sY rfl (oG a)) ?_)))))))))
 rintro _ B_ ⟨rfl, hB_⟩
 obtain rfl := hB_.symm
 refine aa rfl (bM rfl) (aa rfl (ac rfl) ?_)
 refine bC rfl rfl rfl ?_ ?_
 intro g1_4
 refine ap rfl rfl rfl rfl (ap rfl rfl rfl rfl (aa rfl (aY rfl rfl) (ag (ab (cg rfl (ae (ah (aa rfl (ai rfl) (ag (ab (av (aE (au (.inl rfl) (.cons (ak rfl) .nil) ?_)))))))))))))
 refine ⟨_, ⟨?_, rfl⟩, inferInstance⟩
 rw [oE (fun q => by simp_all)]; rfl
 intro g1_4
 refine aa rfl (ac rfl) (ar rfl rfl (am rfl (aU sY rfl (oG b)) ?_))
 rintro _ B_ ⟨rfl, hB_⟩
 obtain rfl := hB_.symm
 refine ar rfl rfl (aa rfl (bM rfl) (aa rfl (aM rfl rfl) (ag (ab ?_))))
 refine aw rfl ?_ ?_
 intro c1
 refine ae (ah (aa rfl (ai rfl) (ag (ab (av (aE (au (.inl rfl) (.cons (ak rfl) .nil) ?_)))))))
 refine ⟨_, ⟨?_, rfl⟩, inferInstance⟩
 rw [oE (fun q => by simp_all)]; rfl
 intro c1
 have ha : dG a = true := by simpa using g1_4
 have hb : dG b = true := by simpa using c1
 obtain ⟨x, rfl, hx⟩ : ∃ x : Nat, a = (x : Int) ∧ x < 256 := ⟨a.toNat, by have := j0.1 ha; omega, by have := j0.1 ha; omega⟩
 obtain ⟨y, rfl, hy⟩ : ∃ y : Nat, b = (y : Int) ∧ y < 256 := ⟨b.toNat, by have := j0.1 hb; omega, by have := j0.1 hb; omega⟩
 refine aB (ab (ae (ae (ah (aa rfl (ai rfl) (ag (ab (aW ?_))))))))
 refine cT (fun i : Nat => i ≤ 8 ∧ ∀ c, c < i → x.testBit c = true → y.testBit c = true) (fun i => [(0, .int .i64 x), (1, .int .i64 y), (5, .int .i64 i)]) (fun i => R) (fun i => 8 - i) 0 ?_ ?_ ?_ ?_
 exact ⟨Nat.zero_le _, fun c h => absurd h (Nat.not_lt_zero _)⟩
 · repeat (first | exact aX | refine aV rfl ?_)
 exact inferInstance
 intro i ⟨hi, hI⟩
 refine ae (ae (ah (aa rfl (ac rfl) (aa rfl (b0 rfl rfl) (ag (ab ?_))))))
 refine aw rfl ?_ ?_
 intro c4
 refine aB (ab (ae (aW (ae (ah (aa rfl (ac rfl) (aa rfl (ac rfl) ?_)))))))
 refine am rfl (aU call360 rfl (uS x i hx (by omega))) ?_
 rintro _ B_ ⟨rfl, hB_⟩
 obtain rfl := hB_.symm
 refine aa rfl (ac rfl) ?_
 refine cJ rfl rfl rfl ?_ ?_
 intro g6_4
 refine aa rfl (ac rfl) (ar rfl rfl (aa rfl (ac rfl) (ar rfl rfl ?_)))
 refine am rfl (aU call360 rfl (uS y i hy (by omega))) ?_
 rintro _ B_ ⟨rfl, hB_⟩
 obtain rfl := hB_.symm
 refine ar rfl rfl (aa rfl (bM rfl) (aa rfl (aY rfl rfl) (ag (ab ?_))))
 refine aw rfl ?_ ?_
 intro c6
 refine ae (ah (aa rfl (ai rfl) (ag (ab (av (bj (aE (aE (bj (aE (au (.inl rfl) (.cons (ak rfl) .nil) ?_)))))))))))
 refine ⟨_, ⟨?_, rfl⟩, inferInstance⟩
 refine congrArg Value.bool (Eq.symm ?_)
 rw [← Bool.not_eq_true, iL]
 intro q
 simp only [Bool.and_eq_true, decide_eq_true_iff, Int.toNat_natCast] at q
 exact c6 ((uQ hx).1 q.2 i (by omega) g6_4)
 intro c6
 refine aB (bH (ab (ah (aa rfl (ac rfl) ?_))))
 refine aa rfl (bF rfl rfl (by first | exact aZ (by omega) | rfl)) ?_
 refine aa rfl (ai rfl) (ag (ab ?_))
 refine cG (i + 1) ?_ ?_ ?_ ?_
 refine ⟨by omega, fun c hc h => ?_⟩
 by_cases e : c = i
 subst e
 first
   | exact Decidable.not_not.1 c6
   | exact absurd h g6_4
 exact hI c (by omega) h
 omega
 · repeat (first | exact aX | refine aV rfl ?_)
 exact inferInstance
 intro g6_4
 refine ap rfl rfl rfl rfl (ap rfl rfl rfl rfl (ap rfl rfl rfl rfl (aa rfl (aM rfl rfl) (ag (ab (eY rfl (aB (bH (ab (ah (aa rfl (ac rfl) ?_)))))))))))
 refine aa rfl (bF rfl rfl (by first | exact aZ (by omega) | rfl)) ?_
 refine aa rfl (ai rfl) (ag (ab ?_))
 refine cG (i + 1) ?_ ?_ ?_ ?_
 refine ⟨by omega, fun c hc h => ?_⟩
 by_cases e : c = i
 subst e
 first
   | exact Decidable.not_not.1 c6
   | exact absurd h g6_4
 exact hI c (by omega) h
 omega
 · repeat (first | exact aX | refine aV rfl ?_)
 exact inferInstance
 intro c4
 refine cj (bi (bi (co (ab (ae (ah (aa rfl (ai rfl) (ag (ab (av (au (.inl rfl) (.cons (ak rfl) .nil) ?_)))))))))))
 refine ⟨_, ⟨?_, rfl⟩, inferInstance⟩
 refine congrArg Value.bool (Eq.symm ?_)
 rw [iL, ha, hb]
 simp only [Bool.and_self, Bool.true_and, decide_eq_true_iff, Int.toNat_natCast]
 exact (uQ hx).2 fun c hc => hI c (by omega)
section
variable {rd : Option Nat} {P : Program} {S : World → Prop} {W0 : World} {N : FSz} {Q : Exit → Act → World → Prop} {e : bQ} {A B R : List HP} {ops : Array Oper} {rest : List Oper}
variable {op : Op} {ty t t' : TypeId} {pos : String} {af : Array Edge} {v u : Value} {d b off : Nat} {x y z : Operand} {l l' vs : List Value} {L : Nat} {xr : RecX}
theorem uT {E n : Nat} {k : IntKind} {i : Int} {j : Nat} (hu : P.underlying t = some (.array n E)) (hs : ∀ w, (sizeOf E).run P w = .ok 1 w) (ha : ∀ w, (isAgg E).run P w = .ok false w) (hx : ev e x = some (.agg l.toArray)) (hy : ev e y = some (.int k i))
    (hi : i = (j : Int)) (hj : j < n) (hl : l[j]? = some v) : cC P S N e (.index t x y) v := fun a w _ _ _ _ _ hF _ => by
 subst hi
 have h1 : (0 : Int) ≤ (j : Int) ∧ (j : Int) < (n : Int) := by omega
 have hlt : j < l.length := by
  rcases Nat.lt_or_ge j l.length with q | q
  exact q
  rw [List.getElem?_eq_none q] at hl; cases hl
 simp only [execOp, Instr.index, hF.eval hx, hF.eval hy, asIntOf, Sem.run_bind, Sem.run_pure, Result.andThen_ok, dY hu, h1, and_self, if_true, hs, Int.toNat_natCast, Nat.mul_one]
 rw [qo ha hl]; rfl
theorem uU {c : Code} (h : aT W0 N (c.wpR none P (Exit.noGoto Q)) e A) : aT W0 N ((Code.scope c).wpR none P Q) e A := fun a w hF hO => qe.2 (wp_scope_straight (qe.1 (h a w hF hO)))
instance FX [h : POk Q] : POk (Exit.noGoto Q) := ⟨fun c a d v w k => h.ok c a d v w k⟩
theorem kL (h : aT W0 N (Ex Q .ret) e A) : aT W0 N (Ex (Exit.noGoto Q) .ret) e A := h
theorem uV {id : Nat} {Post : Value → List HP → Prop} [h : Tk ee L A xr R] (hp : ∃ B, Post (.bool false) B ∧ Ent (ee L { xr with st := .done, pe := some (.exit id) } :: R) B) : aT W0 N (Ex (mJ P W0 L Post) (.exit id)) e A := by
 intro a w hF hO
 obtain ⟨fn, tmps, h1, h2, hO1⟩ := (hO.tk (r := ee) (b := L)).loopRec
 obtain ⟨B, hB, hE⟩ := hp
 exact ⟨_, _, run_endRound (some (.exit id)) hO1.has.2, _, B, rfl, hB, Own.ent (Own.toRec (x := { xr with st := .done, pe := some (.exit id) }) h1 h2 (hO1.turn _)) hE⟩
theorem zY {n gf : Nat} {g : Operand} {ps : Array Tmp} {asg body : Code} {lb : List Value} (id : Nat) (Go Stop : List HP → Prop) (hg : ev e g = some (.func (.func gf) #[] lb.toArray))
    (hc : ∀ args w, (callFunc gf args).run P w = .ok (.enter gf args) w)
    (hs : ∀ L D, aC P W0 gf (.func (.yield L) #[] #[] :: lb) (ee L ⟨e, n, ps, asg, body, .ready, none, D⟩ :: pt D (.deferred (some [])) :: A)
      (fun _ B => (∃ C, B = ee L ⟨e, n, ps, asg, body, .ready, none, D⟩ :: pt D (.deferred (some [])) :: C ∧ Go C) ∨ (∃ C, B = ee L ⟨e, n, ps, asg, body, .done, some (.exit id), D⟩ :: pt D (.deferred (some [])) :: C ∧ Stop C)))
    (hgo : ∀ D C, Go C → aT W0 ⟨n, [kz D]⟩ (Ex Q .normal) e (pt D (.deferred (some [])) :: C))
    (hstop : ∀ D C, Stop C → aT W0 ⟨n, [kz D]⟩ (Ex Q (.exit id)) e (pt D (.deferred (some [])) :: C)) :
    aT W0 ⟨n, []⟩ ((Code.rangeFunc g ps asg body).wpR none P Q) e A := by
 intro a w hF hO
 refine wpIn_rangeFunc (F := FW none) (n := 0) ?_
 intro fn _
 have hO1 : Own W0 ((w.alloc (.deferred (some []))).alloc (.loop ((⟨e, n, ps, asg, body, .ready, none, w.heap.size⟩ : RecX).loop fn a.tmps))) (ee (w.heap.size + 1) ⟨e, n, ps, asg, body, .ready, none, w.heap.size⟩ :: pt w.heap.size (.deferred (some [])) :: A) := by
  refine Own.toRec (fn := fn) hF.size hF.at_ ?_
  have h1 := (hO.new (.deferred (some []))).new (.loop ((⟨e, n, ps, asg, body, .ready, none, w.heap.size⟩ : RecX).loop fn a.tmps))
  have e1 : (w.heap.push (.deferred (some []))).size = w.heap.size + 1 := by simp
  simp only [e1] at h1
  exact h1
 have hent := run_enterLoop_outer (P := P) (w := w) fn a.tmps ps asg body
 generalize hW1 : (w.alloc (.deferred (some []))).alloc (.loop ((⟨e, n, ps, asg, body, .ready, none, w.heap.size⟩ : RecX).loop fn a.tmps)) = W1 at hO1
 rw [show (w.alloc (.deferred (some []))).alloc (.loop { state := .ready, pending := none, fn, tmps := a.tmps, params := ps, assign := asg, body, defers := w.heap.size }) = W1 from hW1] at hent
 have hF' : ∀ D, Fr { a with defers := [kz D] ++ a.defers } ⟨n, [kz D]⟩ e := fun D => ⟨by simp [hF.defers], hF.size, hF.at_⟩
 refine ⟨w.heap.size + 1, [{ target := .collected w.heap.size, args := #[] }], W1, { target := .fn (.func gf) lb.toArray, args := #[.func (.yield (w.heap.size + 1)) #[] #[]] }, W1, gf,
   #[.func (.yield (w.heap.size + 1)) #[] #[]] ++ lb.toArray, W1, hent, ?_, fun _ _ => trivial, ?_, fun h => (by cases h), ?_⟩
 have hgv := hF.eval hg
 simp only [resolve, hgv]
 simp [go_sem]
 simp [invoke, go_sem, hc]
 refine qf.2 ?_
 have e2 : (#[.func (.yield (w.heap.size + 1)) #[] #[]] ++ lb.toArray : Array Value) = (.func (.yield (w.heap.size + 1)) #[] #[] :: lb).toArray := by simp
 rw [e2]
 refine Calls.mono (hs (w.heap.size + 1) w.heap.size _ hO1) ?_
 rintro _ w' ⟨v, B, rfl, hp, hO2⟩
 rcases hp with ⟨C, rfl, hC⟩ | ⟨C, rfl, hC⟩
 obtain ⟨fn', tmps', h1, h2, hO3⟩ := hO2.loopRec
 refine ⟨none, _, run_endLoop hO3.has.2 (by simp [RecX.loop]), ?_⟩
 exact hgo _ C hC _ _ (hF' _) (hO3.turn _).drop
 obtain ⟨fn', tmps', h1, h2, hO3⟩ := hO2.loopRec
 refine ⟨some (.exit id), _, run_endLoop hO3.has.2 (by simp [RecX.loop]), ?_⟩
 exact wpIn_exit (hstop _ C hC _ _ (hF' _) (hO3.turn _).drop)
theorem zZ {E n c sz : Nat} {a : Option Addr} {ys : List Value} {K : Act → World → Prop} [h : Tk (osl E sz) (.slice a n c) A ys R] (k : n ≤ c ∧ c ≤ maxLen → aT W0 N K e A) : aT W0 N K e A := fun act w hF hO => by
 refine k ?_ act w hF hO
 rcases (hO.tk (r := osl E sz) (b := .slice a n c)).osl with ⟨k1, k2, _⟩ | ⟨g, n', cap, sp, k1, k2, k3, _, _, _⟩
 cases k1; simp
 cases k1; exact ⟨k2, k3⟩
theorem A0 (n : Nat) : IntKind.wrap .u32 (n : Int) = ((n % 4294967296 : Nat) : Int) := by
 simp only [IntKind.wrap, IntKind.bits, IntKind.signed]; simp
theorem rk {a : Option Addr} {ys : List Value} (h : qW a ys) (hne : ys ≠ []) : ∃ g, a = some ⟨g, 0, none⟩ := by
 rcases h with ⟨_, q⟩ | q
 exact absurd q hne
 exact q
end
section
variable {rd : Option Nat} {P : Program} {S : World → Prop} {W0 : World} {N : FSz} {Q : Exit → Act → World → Prop} {e : bQ} {A B R : List HP} {ops : Array Oper} {rest : List Oper}
variable {op : Op} {ty t t' : TypeId} {pos : String} {af : Array Edge} {v u : Value} {d b off : Nat} {x y z : Operand} {l l' vs : List Value}
variable {α : Type} {sz : Nat} {f : α → List Value} {xs : List α} {a : Option Addr}
theorem uW {k : IntKind} {m n r : Int} {ats : Array TypeId} (hx : ev e x = some (.int k m)) (hy : ev e y = some (.int k n)) (hr : (if n > m then n else m) = r) : cC P S N e (.call { callee := .builtin .max, args := #[x, y], argTypes := ats }) (.int k r) := fun a w _ _ _ _ _ hF _ => by
 simp [execOp, resolve, invoke, builtin, hF.eval hx, hF.eval hy, Builtin.max_, Builtin.max2, hr]
def gF (a : Option Addr) (c i sz : Nat) : Option Addr := if c = i then a else a.map (·.add (i * sz))
theorem A1 {E n c sz : Nat} {k k' : IntKind} {i h : Nat} {j1 j2 : Int} (hu : P.underlying t = some (.slice E)) (hs : ∀ w, (sizeOf E).run P w = .ok sz w) (hx : ev e x = some (.slice a n c))
    {lo hi : Operand} (h1 : ev e lo = some (.int k j1)) (h2 : ev e hi = some (.int k' j2)) (e1 : j1 = (i : Int)) (e2 : j2 = (h : Int)) (hil : i ≤ h) (hmc : h ≤ c) :
    cC P S N e (.slice t x (some lo) (some hi) none) (.slice (gF a c i sz) (h - i) (c - i)) := fun act w _ _ _ _ _ hF _ => by
 subst e1; subst e2
 simp [execOp, Instr.sliceAt, Instr.slice, hF.eval hx, hF.eval h1, hF.eval h2, dY hu, Instr.sliceBounds, jP hmc, jP hil, hs, gF]
theorem cF.sub (h : cF S a sz f xs) {c i k : Nat} (hk : i + k ≤ xs.length) (hc : xs.length ≤ c) : cF S (gF a c i sz) sz f ((xs.drop i).take k) := fun j x hj => by
 have hjk : j < k := by
  rcases Nat.lt_or_ge j k with q | q
  exact q
  rw [List.getElem?_eq_none (by rw [List.length_take]; omega)] at hj; cases hj
 rw [List.getElem?_take_of_lt hjk, List.getElem?_drop] at hj
 obtain ⟨b, off, rfl, hcl⟩ := h (i + j) x hj
 refine ⟨b, off + i * sz, ?_, ?_⟩
 rw [gF, if_neg (by omega)]; simp [fu]
 rw [Nat.add_assoc, ← Nat.add_mul]; exact hcl
theorem cF.take (h : cF S a sz f xs) (k : Nat) : cF S a sz f (xs.take k) := fun j x hj => by
 have hjk : j < k := by
  rcases Nat.lt_or_ge j k with q | q
  exact q
  rw [List.getElem?_eq_none (by rw [List.length_take]; omega)] at hj; cases hj
 rw [List.getElem?_take_of_lt hjk] at hj
 exact h j x hj
theorem cF.src (h : cF S a sz f xs) (hf : ∀ x, (f x).length = sz) (ha : a = none → True) : (xs = []) ∨ ∃ b off, a = some ⟨b, off, none⟩ ∧ cY S b off (xs.flatMap f) := by
 by_cases h0 : xs = []
 exact .inl h0
 exact .inr (h.all h0 hf)
theorem uX {E n m c cx by_ : Nat} {ay : Option Addr} {info : TypeInfo} {z : Value} {an : Option Addr} {xs news : List Value} (hu : P.underlying t = some (.slice E))
    (hi : P.info? E = some info) (hz : info.zero = some z) (hsz : info.size = sz) (hby : info.bytes = by_) (hz1 : z.cells.size = sz) (hsz0 : 0 < sz)
    (hx : ev e x = some (.slice an n c)) (hy : ev e y = some (.slice ay m cx)) [h : Tk (osl E sz) (.slice an n c) A xs R]
    (hsrc : m = 0 ∨ ∃ bx ox, ay = some ⟨bx, ox, none⟩ ∧ cY (bK W0 A) bx ox news) (hnl : news.length = m * sz) (h1 : eM news = true) (h63 : n + m ≤ maxLen) (hbig : (n + m) * by_ ≤ 140737488355328) :
    dl P W0 N e A (.call { callee := .builtin .append, args := #[x, y], argTypes := #[t, t] }) (fun v B => ∃ a' c', v = .slice a' (n + m) c' ∧ B = osl E sz v (xs ++ news) :: R) := by
 rcases hsrc with rfl | ⟨bx, ox, rfl, hc⟩
 have h0 : news = [] := List.eq_nil_of_length_eq_zero (by simpa using hnl)
 subst h0
 intro act w dst ty pos af g K Q hF hO k
 have hO' := hO.tk (r := osl E sz) (b := .slice an n c)
 have hcap : n ≤ c := by
  rcases hO'.osl with ⟨k1, _, _⟩ | ⟨_, _, _, _, k1, k2, _⟩
  cases k1; exact Nat.le_refl _
  cases k1; exact k2
 have hrun : (Builtin.append_ #[t, t] ty #[.slice an n c, .slice ay 0 cx]).run P w = .ok (.slice an n c) w := by
  cases an <;> cases ay <;> simp [Builtin.append_, dY hu, sizeOf, typeInfo, hi, Builtin.lenOf, Builtin.firstCells, hcap, loadCells, loadCellsFrom, storeCells]
 unfold Oper.wp
 have hexec : (execOp act.eval { dst := dst, op := .call { callee := .builtin .append, args := #[x, y], argTypes := #[t, t] }, type := ty, pos := pos, after := af, guard := g }).run P w = .ok (.value (.slice an n c)) w := by
  simp only [execOp, resolve, invoke, builtin, Sem.run_bind, Sem.run_pure, Result.andThen_ok, List.map_toArray, List.map_cons, List.map_nil, hF.eval hx, hF.eval hy, hrun]
 rw [hexec]
 exact k _ w _ ⟨an, c, rfl, by rw [List.append_nil]⟩ hO'
 exact dP hu hi hz hsz hby hz1 hsz0 hx hy hc hnl h1 h63 hbig
end
section
variable {P : Program} {S : World → Prop} {W0 : World} {N : FSz} {e : bQ} {A R : List HP} {t ty : TypeId} {b off : Nat} {x : Operand} {l : List Value}
theorem jS {E n c sz : Nat} {k : IntKind} {i : Nat} {j1 : Int} {a a' : Option Addr} (hu : P.underlying t = some (.slice E)) (hs : ∀ w, (sizeOf E).run P w = .ok sz w) (hx : ev e x = some (.slice a n c))
    {lo : Operand} (h1 : ev e lo = some (.int k j1)) (e1 : j1 = (i : Int)) (hil : i ≤ n) (ha : gF a c i sz = a') :
    cC P S N e (.slice t x (some lo) none none) (.slice a' (n - i) (c - i)) := fun act w _ _ _ _ _ hF _ => by
 subst e1; subst ha
 simp [execOp, Instr.sliceAt, Instr.slice, hF.eval hx, hF.eval h1, dY hu, Instr.sliceBounds, jP hil, hs, gF]
section
variable {rd : Option Nat} {Q : Exit → Act → World → Prop} {ops : Array Oper} {rest : List Oper} {pos : String} {af : Array Edge} {d : Nat} {y : Operand}
end
end
section
variable {P : Program} {W0 : World} {N : FSz} {e : bQ} {A R R1 R2 R3 R4 R5 R6 R7 : List HP} {vs us cs : List Value}
variable {K1 K2 K3 K4 K5 K6 K7 K8 X1 X2 X3 X4 X5 X6 X7 X8 : Type} {r1 : K1 → X1 → HP} {b1 : K1} {x1 : X1} {r2 : K2 → X2 → HP} {b2 : K2} {x2 : X2} {r3 : K3 → X3 → HP} {b3 : K3} {x3 : X3} {r4 : K4 → X4 → HP} {b4 : K4} {x4 : X4} {r5 : K5 → X5 → HP} {b5 : K5} {x5 : X5} {r6 : K6 → X6 → HP} {b6 : K6} {x6 : X6} {r7 : K7 → X7 → HP} {b7 : K7} {x7 : X7} {r8 : K8 → X8 → HP} {b8 : K8} {x8 : X8}
variable {f : FuncId} {xs : Array Operand} {ats : Array TypeId} {Post : Value → List HP → Prop}
end
def sV (s : ByteArray) : Value := .string s
def uY (l : List ByteArray) : List Value := l.map sV
structure Prt where
  lab : Int
  gu : Int
  l : List ByteArray
instance : Inhabited Prt := ⟨⟨0, 0, []⟩⟩
def oH (p : Value × Prt) : List Value := [.int .i64 p.2.lab, .int .i64 p.2.gu, p.1]
def jT (p : Value × Prt) : HP := osl 9 1 p.1 (uY p.2.l)
def oI (p : Nat) (ps : List Prt) : HP := chk (fun C => ∃ a c, ∃ vs : List Value, vs.length = ps.length ∧ C = [pt p (ax [.slice a ps.length c, .bool true] 267), osl 270 3 (.slice a ps.length c) ((vs.zip ps).flatMap oH), kH 2 (bB ((vs.zip ps).map jT))])
section
variable {P : Program} {W0 : World} {N : FSz} {K : Act → World → Prop} {e : bQ} {A B R R1 R2 R3 R4 : List HP} {p g n : Nat} {ps : List Prt} {f : FuncId} {args : List Value} {Post : Value → List HP → Prop}
theorem uZ {α : Type} : ∀ (l : List α) (i : Nat) (h : i < l.length), l.Perm (l[i] :: l.eraseIdx i)
 | x :: l, 0, h => by simp
 | x :: l, i + 1, h => by
  simp only [List.getElem_cons_succ, List.eraseIdx_cons_succ]
  exact ((uZ l i (by simpa using h)).cons x).trans (List.Perm.swap _ _ _)
theorem v4 {α : Type} : ∀ (l : List α) (i : Nat) (x : α) (h : i < l.length), (x :: l.eraseIdx i).Perm (l.set i x)
 | y :: l, 0, x, h => by simp
 | y :: l, i + 1, x, h => by
  simp only [List.set_cons_succ, List.eraseIdx_cons_succ]
  exact (List.Perm.swap _ _ _).trans ((v4 l i x (by simpa using h)).cons y)
theorem rm {L : List HP} {i : Nat} (h : i < L.length) : Ent (kH 2 (bB L) :: R) (L[i] :: kH 3 (bB (L.eraseIdx i)) :: R) := by
 refine (ik (A := L) (R := R)).trans ?_
 refine (Ent.ofPerm ((uZ L i h).append_right R)).trans ?_
 exact Ent.cons fY
theorem A2 {L : List HP} {i : Nat} {x : HP} (h : i < L.length) : Ent (x :: kH 3 (bB (L.eraseIdx i)) :: R) (kH 2 (bB (L.set i x)) :: R) := by
 refine (Ent.cons ik).trans ?_
 exact (Ent.ofPerm ((v4 L i x h).append_right R)).trans fY
theorem A3 {a : Option Addr} {c : Nat} {vs : List Value} [h1 : Tk pt p A (ax [.slice a n c, .bool true] 267) R1] [h2 : Tk (osl 270 3) (.slice a n c) R1 ((vs.zip ps).flatMap oH) R2] [h3 : Tk kH 2 R2 (bB ((vs.zip ps).map jT)) R3] (hv : vs.length = ps.length) (hn : n = ps.length) [k : Ent R3 B] : Ent A (oI p ps :: B) := by
 subst hn
 have e1 : A.Perm ([pt p (ax [.slice a ps.length c, .bool true] 267), osl 270 3 (.slice a ps.length c) ((vs.zip ps).flatMap oH), kH 2 (bB ((vs.zip ps).map jT))] ++ R3) := h1.perm.trans ((h2.perm.trans (h3.perm.cons _)).cons _)
 exact (Ent.ofPerm e1).trans ((eZ (R := R3) ⟨a, c, vs, hv, rfl⟩).trans (Ent.cons k))
end
theorem rn {vs : List Value} {i : Nat} {v : Value} (h : vs[i]? = some v) : vs.set i v = vs := by
 have hi : i < vs.length := by
  rcases Nat.lt_or_ge i vs.length with k | k
  exact k
  rw [List.getElem?_eq_none k] at h; cases h
 have : vs[i] = v := by simpa [hi] using h
 rw [← this]; exact List.set_getElem_self _
@[reducible] def dJ (x : Int × Bool) : List Value := [.int .i64 x.1, .bool x.2]
theorem oJ (x : Int × Bool) : (dJ x).length = 2 := rfl
@[reducible] def fP (n : Nat) : List Value := [.int .i64 (n : Int)]
theorem i4 (n : Nat) : (fP n).length = 1 := rfl
def dt (p : Value × List Nat) : HP := osl 3 1 p.1 (p.2.flatMap fP)
@[reducible] def ez (ps : Nat) (sv : Value) (vs : List Value) : List Value := .pointer (some ⟨ps, 0, none⟩) :: sv :: vs
theorem v5 (ps w : Nat) (sv v : Value) (vs : List Value) : (ez ps sv vs).set (2 + w * 1) v = ez ps sv (vs.set w v) := by
 rw [show 2 + w * 1 = w + 1 + 1 by omega]; rfl
abbrev fi (w : Nat) : Nat → List Nat × List Value → HP := jR 420 3 1 fP (2 + w * 1)
def da (pb : Nat) (x : Nat × Po) : HP := chk (fun C => ∃ a c vs Ls, vs.length = 16 ∧ LsOk x.2 Ls ∧ C = [pt pb (ax (ez x.1 (.slice a x.2.length c) vs) 420), osl 422 2 (.slice a x.2.length c) (x.2.flatMap dJ), kH 2 (bB ((vs.zip Ls).map dt))])
theorem A4 {F : List HP → Prop} {R B : List HP} (h : ∀ C, F C → Ent (C ++ R) B) : Ent (chk F :: R) B := ⟨fun l hl => by
 obtain ⟨l1, l2, rfl, ⟨C, hC, hs⟩, h2⟩ := hl
 exact (h C hC).out _ (fg.append.2 ⟨l1, l2, rfl, hs, h2⟩)⟩
section
variable {P : Program} {W0 : World} {N : FSz} {K : Act → World → Prop} {e : bQ} {A B R R1 R2 R3 : List HP} {pb ps w n : Nat} {po : Po} {f : FuncId} {args : List Value} {Post : Value → List HP → Prop}
theorem oK [hk : Tk da pb A (ps, po) R] (h : ∀ a c vs Ls, vs.length = 16 → LsOk po Ls → aT W0 N K e (pt pb (ax (ez ps (.slice a po.length c) vs) 420) :: osl 422 2 (.slice a po.length c) (po.flatMap dJ) :: kH 2 (bB ((vs.zip Ls).map dt)) :: R)) : aT W0 N K e A :=
  ed (r := da) (b := pb) (jh fun C hC => by obtain ⟨a, c, vs, Ls, h1, h2, rfl⟩ := hC; exact h a c vs Ls h1 h2)
theorem v6 (h : ∀ a c vs Ls, vs.length = 16 → LsOk po Ls → aC P W0 f args (pt pb (ax (ez ps (.slice a po.length c) vs) 420) :: osl 422 2 (.slice a po.length c) (po.flatMap dJ) :: kH 2 (bB ((vs.zip Ls).map dt)) :: R) Post) : aC P W0 f args (da pb (ps, po) :: R) Post :=
  mG fun C hC => by obtain ⟨a, c, vs, Ls, h1, h2, rfl⟩ := hC; exact h a c vs Ls h1 h2
theorem lK {a : Option Addr} {c : Nat} {vs xs : List Value} {Ls : List (List Nat)} {sv : Value} [h1 : Tk pt pb A (ax (ez ps sv vs) 420) R1] [h2 : Tk (osl 422 2) sv R1 xs R2] [h3 : Tk kH 2 R2 (bB ((vs.zip Ls).map dt)) R3]
    (hs : sv = .slice a n c) (hv : vs.length = 16) (hL : LsOk po Ls) (hn : n = po.length) (hx : xs = po.flatMap dJ) [k : Ent R3 B] : Ent A (da pb (ps, po) :: B) := by
 subst hs; subst hn; subst hx
 exact (Ent.ofPerm (h1.perm.trans ((h2.perm.trans (h3.perm.cons _)).cons _))).trans ((Ent.cons (Ent.cons (Ent.cons k))).trans (eZ (R := B) (C := [_, _, _]) ⟨a, c, vs, Ls, hv, hL, rfl⟩))
theorem rp {sv : Value} {vs : List Value} {Ls : List (List Nat)} (hw : w < 16) (hv : vs.length = 16) (hL : Ls.length = 16) :
    Ent (pt pb (ax (ez ps sv vs) 420) :: kH 2 (bB ((vs.zip Ls).map dt)) :: R) (fi w pb (Ls.getD w [], ez ps sv vs) :: kH 3 (bB (((vs.zip Ls).map dt).eraseIdx w)) :: R) := by
 have hlen : ((vs.zip Ls).map dt).length = 16 := by simp [hv, hL]
 have hg : ((vs.zip Ls).map dt)[w]'(by omega) = osl 3 1 (vs.getD w undef) ((Ls.getD w []).flatMap fP) := by
  simp [dt, List.getD, show w < vs.length by omega, show w < Ls.length by omega]
 have e2 := rm (L := (vs.zip Ls).map dt) (R := R) (i := w) (by omega)
 rw [hg] at e2
 refine (Ent.cons e2).trans ?_
 generalize hvw : vs.getD w undef = v
 have hvs : vs[w]? = some v := by rw [← hvw]; simp [List.getD, show w < vs.length by omega]
 refine ⟨fun l hl => ?_⟩
 obtain ⟨l1, l2, rfl, h1, l3, l4, rfl, h3, h4⟩ := hl
 have key : ∀ a c, v = .slice a (Ls.getD w []).length c → ∃ l' r, fg (fi w pb (Ls.getD w [], ez ps sv vs) :: kH 3 (bB (((vs.zip Ls).map dt).eraseIdx w)) :: R) l' ∧ (l1 ++ (l3 ++ l4)).Perm (l' ++ r) := fun a c hva => by
  have hcs : (ez ps sv vs).set (2 + w * 1) (.slice a (Ls.getD w []).length c) = ez ps sv vs := by
   rw [← hva, v5, rn hvs]
  refine ⟨(l1 ++ l3) ++ l4, [], ⟨l1 ++ l3, l4, rfl, ⟨_, ⟨by simp [ez, hv]; omega, a, c, rfl⟩, ?_⟩, h4⟩, by simp⟩
  rw [hcs, ← hva]
  exact ⟨l1, l3, rfl, h1, l3, [], by simp, h3, rfl⟩
 rcases id h3 with ⟨k1, k2, _⟩ | ⟨g, n, cap, sp, k1, _, _, k4, _, _⟩
 have hl0 : (Ls.getD w []).length = 0 := by
  have := congrArg List.length k2
  rw [dr i4] at this; simpa using this
 exact key none 0 (by rw [k1, hl0])
 have hl0 : (Ls.getD w []).length = n := by rw [dr i4] at k4; omega
 exact key (some ⟨g, 0, none⟩) cap (by rw [k1, hl0])
theorem rq {a : Option Addr} {c : Nat} {sv : Value} {vs : List Value} {Ls : List (List Nat)} {l : List Nat} {po' : Po} (hw : w < 16) (hv : vs.length = 16) (hs : sv = .slice a n c) (hn : n = po'.length) (hL : Ls.length = 16) (hk : LsOk po' (Ls.set w l)) :
    Ent (fi w pb (l, ez ps sv vs) :: osl 422 2 sv (po'.flatMap dJ) :: kH 3 (bB (((vs.zip Ls).map dt).eraseIdx w)) :: R) (da pb (ps, po') :: R) := by
 refine A4 fun C hC => ?_
 obtain ⟨ho, a2, c2, rfl⟩ := hC
 have hcs : (ez ps sv vs).set (2 + w * 1) (.slice a2 l.length c2) = ez ps sv (vs.set w (.slice a2 l.length c2)) := v5 ..
 dsimp only
 rw [hcs]
 have hlen : ((vs.zip Ls).map dt).length = 16 := by simp [hv, hL]
 have hset : ((vs.set w (.slice a2 l.length c2)).zip (Ls.set w l)).map dt = ((vs.zip Ls).map dt).set w (dt (.slice a2 l.length c2, l)) := by
  apply List.ext_getElem
  simp
  intro j h1 h2
  by_cases e : j = w
  subst e; simp
  have e' : ¬ w = j := fun h => e h.symm
  simp [List.getElem_set, e']
 have e2 : Ent (dt (.slice a2 l.length c2, l) :: kH 3 (bB (((vs.zip Ls).map dt).eraseIdx w)) :: R) (kH 2 (bB (((vs.set w (.slice a2 l.length c2)).zip (Ls.set w l)).map dt)) :: R) := by
  rw [hset]; exact A2 (by omega)
 refine (Ent.ofPerm ((List.Perm.swap _ _ _).cons _)).trans ?_
 refine (Ent.cons (Ent.cons e2)).trans ?_
 exact lK (vs := vs.set w (.slice a2 l.length c2)) hs (by simpa using hv) hk hn rfl
end
theorem v7 (po : Po) (sp : List Value) (i j : Nat) (hi : i < po.length) (hj : j < 2) : (po.flatMap dJ ++ sp)[i * 2 + j]? = (dJ (d7 po i))[j]? := by
 rw [jz oJ po i j sp hi hj]; simp [d7, List.getD, hi]
theorem A5 (po : Po) (sp : List Value) (i : Nat) (v : Int) (hi : i < po.length) : (po.flatMap dJ ++ sp).set (i * 2 + 0) (.int .i64 v) = (po.set i (v, (d7 po i).2)).flatMap dJ ++ sp :=
  mD oJ po i 0 _ _ sp hi (by decide) (by simp [d7, List.getD, hi, dJ])
theorem v8 (po : Po) (sp : List Value) (i : Nat) (v : Bool) (hi : i < po.length) : (po.flatMap dJ ++ sp).set (i * 2 + 1) (.bool v) = (po.set i ((d7 po i).1, v)).flatMap dJ ++ sp :=
  mD oJ po i 1 _ _ sp hi (by decide) (by simp [d7, List.getD, hi, dJ])
theorem iM (po : Po) : (po.flatMap dJ).length = po.length * 2 := dr oJ po
abbrev jU (pb w : Nat) : Value := .pointer (some ⟨pb, 2 + w * 1, none⟩)
theorem kM {its : List Nat} {sp : List Value} {i : Nat} (hi : i < its.length) : (its.flatMap fP ++ sp)[i * 1]? = some (.int .i64 ((its.getD i default : Nat) : Int)) := by
 have := jz i4 its i 0 sp hi (by decide)
 rw [Nat.add_zero] at this
 rw [this]; simp [fP, List.getD, hi]
theorem oL {its : List Nat} {sp : List Value} {i x : Nat} (hi : i < its.length) : (its.flatMap fP ++ sp).set (i * 1) (.int .i64 (x : Int)) = (its.set i x).flatMap fP ++ sp := by
 have := mD i4 its i 0 (.int .i64 (x : Int)) x sp hi (by decide) (by simp [fP])
 rwa [Nat.add_zero] at this
theorem oM {its : List Nat} {sp : List Value} {i : Nat} (hi : i < its.length) : i * 1 + 1 ≤ (its.flatMap fP ++ sp).length := zU i4 its sp i hi
theorem rr (W0 : World) (R : List HP) (pb w : Nat) (its : List Nat) (cs : List Value) :
    aC Tryz.prog W0 299 [jU pb w] (fi w pb (its, cs) :: R) (fun v B => v = .int .i64 (its.length : Nat) ∧ B = fi w pb (its, cs) :: R) := by
 refine qY fun a c ho => ?_
 refine aG func299 ntmps299 rfl rfl ?_
 refine ae (ah (aa rfl (ai rfl) (ag (ab (ae (ah (aa rfl (ac rfl) (aa rfl (aF rfl) ?_))))))))
 refine aa rfl (al rfl iz rfl dh rfl (by first | exact Nat.zero_add _ | rfl)) ?_
 refine aa rfl (ao eU rfl (aA (iK ho))) ?_
 refine aa rfl (bu dC rfl) (aa rfl (ai rfl) (ag (ab (av (au (.inl rfl) (.cons (ak rfl) .nil) ?_)))))
 exact ⟨_, ⟨rfl, rfl⟩, qZ rfl rfl ho rfl⟩
theorem A6 (W0 : World) (R : List HP) (pb w : Nat) (its : List Nat) (cs : List Value) (i k : Nat) (hi : i < its.length) (hk : k < its.length) :
    aC Tryz.prog W0 495 [jU pb w, .int .i64 i, .int .i64 k] (fi w pb (its, cs) :: R) (fun v B => v = .bool (decide (Hp.us its i < Hp.us its k)) ∧ B = fi w pb (its, cs) :: R) := by
 refine r0 i4 (by intro e; subst e; simp at hi) (by decide) fun g c sp ho h1 h2 h3 => ?_
 refine aG func495 ntmps495 rfl rfl ?_
 refine ae (ah (aa rfl (ai rfl) (ag (ab (ae ?_)))))
 refine cA [(pb, 0, _), (g, 0, _)] 16 cz rfl (aK (aK aJ)) (fun hS => ?_)
 refine aj 0 rfl rfl (by kernel_rfl) (by kernel_rfl) (by kernel_rfl) rfl hS (ac rfl) ?_
 refine aj 1 rfl rfl (by kernel_rfl) (by kernel_rfl) (by kernel_rfl) rfl hS (aF rfl) ?_
 refine aj 2 rfl rfl (by kernel_rfl) (by kernel_rfl) (by kernel_rfl) rfl hS (al rfl iz rfl dh rfl (by first | exact Nat.zero_add _ | rfl)) ?_
 refine aj 3 rfl rfl (by kernel_rfl) (by kernel_rfl) (by kernel_rfl) rfl hS (ao eU rfl (aD (k := 0) rfl (iK ho))) ?_
 refine aj 4 rfl rfl (by kernel_rfl) (by kernel_rfl) (by kernel_rfl) rfl hS (ac rfl) ?_
 refine aj 5 rfl rfl (by kernel_rfl) (by kernel_rfl) (by kernel_rfl) rfl hS (ce dC az rfl rfl rfl hi (by first | exact Nat.zero_add _ | rfl)) ?_
 refine aj 6 rfl rfl (by kernel_rfl) (by kernel_rfl) (by kernel_rfl) rfl hS (ao aQ rfl (aD (k := 1) rfl (kM hi))) ?_
 refine aj 7 rfl rfl (by kernel_rfl) (by kernel_rfl) (by kernel_rfl) rfl hS (ac rfl) ?_
 refine aj 8 rfl rfl (by kernel_rfl) (by kernel_rfl) (by kernel_rfl) rfl hS (aF rfl) ?_
 refine aj 9 rfl rfl (by kernel_rfl) (by kernel_rfl) (by kernel_rfl) rfl hS (al rfl iz rfl dh rfl (by first | exact Nat.zero_add _ | rfl)) ?_
 refine aj 10 rfl rfl (by kernel_rfl) (by kernel_rfl) (by kernel_rfl) rfl hS (ao eU rfl (aD (k := 0) rfl (iK ho))) ?_
 refine aj 11 rfl rfl (by kernel_rfl) (by kernel_rfl) (by kernel_rfl) rfl hS (ac rfl) ?_
 refine aj 12 rfl rfl (by kernel_rfl) (by kernel_rfl) (by kernel_rfl) rfl hS (ce dC az rfl rfl rfl hk (by first | exact Nat.zero_add _ | rfl)) ?_
 refine aj 13 rfl rfl (by kernel_rfl) (by kernel_rfl) (by kernel_rfl) rfl hS (ao aQ rfl (aD (k := 1) rfl (kM hk))) ?_
 refine aj 14 rfl rfl (by kernel_rfl) (by kernel_rfl) (by kernel_rfl) rfl hS (b0 rfl rfl) ?_
 refine aj 15 rfl rfl (by kernel_rfl) (by kernel_rfl) (by kernel_rfl) rfl hS (ai rfl) ?_
 refine bL (by kernel_rfl) ?_; clear hS
 refine ab (av (au (.inl rfl) (.cons (ak rfl) .nil) ?_))
 exact ⟨_, ⟨rfl, rfl⟩, oC i4 rfl rfl ho rfl h1 h2 h3⟩
theorem A7 (W0 : World) (R : List HP) (pb w : Nat) (its : List Nat) (cs : List Value) (i k : Nat) (hi : i < its.length) (hk : k < its.length) :
    aC Tryz.prog W0 498 [jU pb w, .int .i64 i, .int .i64 k] (fi w pb (its, cs) :: R) (fun v B => v = .tuple #[] ∧ B = fi w pb (Hp.swapL its i k, cs) :: R) := by
 refine r0 i4 (by intro e; subst e; simp at hi) (by decide) fun g c sp ho h1 h2 h3 => ?_
 refine aG func498 ntmps498 rfl rfl ?_
 refine cA [(pb, 0, _)] 28 cz rfl (aK aJ) (fun hS => ?_)
 refine aj 0 rfl rfl (by kernel_rfl) (by kernel_rfl) (by kernel_rfl) rfl hS (ac rfl) ?_
 refine aj 1 rfl rfl (by kernel_rfl) (by kernel_rfl) (by kernel_rfl) rfl hS (aF rfl) ?_
 refine aj 2 rfl rfl (by kernel_rfl) (by kernel_rfl) (by kernel_rfl) rfl hS (al rfl iz rfl dh rfl (by first | exact Nat.zero_add _ | rfl)) ?_
 refine aj 3 rfl rfl (by kernel_rfl) (by kernel_rfl) (by kernel_rfl) rfl hS (ao eU rfl (aD (k := 0) rfl (iK ho))) ?_
 refine aj 4 rfl rfl (by kernel_rfl) (by kernel_rfl) (by kernel_rfl) rfl hS (ac rfl) ?_
 refine aj 5 rfl rfl (by kernel_rfl) (by kernel_rfl) (by kernel_rfl) rfl hS (ac rfl) ?_
 refine aj 6 rfl rfl (by kernel_rfl) (by kernel_rfl) (by kernel_rfl) rfl hS (aF rfl) ?_
 refine aj 7 rfl rfl (by kernel_rfl) (by kernel_rfl) (by kernel_rfl) rfl hS (al rfl iz rfl dh rfl (by first | exact Nat.zero_add _ | rfl)) ?_
 refine aj 8 rfl rfl (by kernel_rfl) (by kernel_rfl) (by kernel_rfl) rfl hS (ao eU rfl (aD (k := 0) rfl (iK ho))) ?_
 refine aj 9 rfl rfl (by kernel_rfl) (by kernel_rfl) (by kernel_rfl) rfl hS (ac rfl) ?_
 refine aj 10 rfl rfl (by kernel_rfl) (by kernel_rfl) (by kernel_rfl) rfl hS (ac rfl) ?_
 refine aj 11 rfl rfl (by kernel_rfl) (by kernel_rfl) (by kernel_rfl) rfl hS (aF rfl) ?_
 refine aj 12 rfl rfl (by kernel_rfl) (by kernel_rfl) (by kernel_rfl) rfl hS (al rfl iz rfl dh rfl (by first | exact Nat.zero_add _ | rfl)) ?_
 refine aj 13 rfl rfl (by kernel_rfl) (by kernel_rfl) (by kernel_rfl) rfl hS (ao eU rfl (aD (k := 0) rfl (iK ho))) ?_
 refine aj 14 rfl rfl (by kernel_rfl) (by kernel_rfl) (by kernel_rfl) rfl hS (ac rfl) ?_
 refine aj 15 rfl rfl (by kernel_rfl) (by kernel_rfl) (by kernel_rfl) rfl hS (ce dC az rfl rfl rfl hk (by first | exact Nat.zero_add _ | rfl)) ?_
 refine aj 17 rfl rfl (by kernel_rfl) (by kernel_rfl) (by kernel_rfl) rfl hS (ac rfl) ?_
 refine aj 18 rfl rfl (by kernel_rfl) (by kernel_rfl) (by kernel_rfl) rfl hS (aF rfl) ?_
 refine aj 19 rfl rfl (by kernel_rfl) (by kernel_rfl) (by kernel_rfl) rfl hS (al rfl iz rfl dh rfl (by first | exact Nat.zero_add _ | rfl)) ?_
 refine aj 20 rfl rfl (by kernel_rfl) (by kernel_rfl) (by kernel_rfl) rfl hS (ao eU rfl (aD (k := 0) rfl (iK ho))) ?_
 refine aj 21 rfl rfl (by kernel_rfl) (by kernel_rfl) (by kernel_rfl) rfl hS (ac rfl) ?_
 refine aj 22 rfl rfl (by kernel_rfl) (by kernel_rfl) (by kernel_rfl) rfl hS (ce dC az rfl rfl rfl hi (by first | exact Nat.zero_add _ | rfl)) ?_
 refine io (is := [16, 23]) (by kernel_rfl) rfl ⟨?_, ?_, trivial⟩
 skip
 refine eD rfl rfl (eC (ao aQ rfl (aA (kM hk)))) rfl ?_; clear hS
 rintro _ _ ⟨rfl, rfl⟩
 refine ⟨(aK aJ), fun hS => ?_⟩
 refine bA 23 (by kernel_rfl) rfl rfl (eC (ao aQ rfl (aA (kM hi)))) rfl ?_; clear hS
 rintro _ _ ⟨rfl, rfl⟩
 refine ⟨(aK aJ), fun hS => ?_⟩
 refine aj 24 rfl rfl (by kernel_rfl) (by kernel_rfl) (by kernel_rfl) rfl hS (ce dC az rfl rfl rfl hi (by first | exact Nat.zero_add _ | rfl)) ?_
 refine bA 25 (by kernel_rfl) rfl rfl (cm az rfl rfl rfl (oM hi) (oL hi)) rfl ?_; clear hS
 rintro _ _ rfl
 refine ⟨(aK aJ), fun hS => ?_⟩
 refine aj 26 rfl rfl (by kernel_rfl) (by kernel_rfl) (by kernel_rfl) rfl hS (ce dC az rfl rfl rfl hk (by first | exact Nat.zero_add _ | rfl)) ?_
 refine bA 27 (by kernel_rfl) rfl rfl (cm az rfl rfl rfl (oM (by simpa using hk)) (oL (by simpa using hk))) rfl ?_; clear hS
 rintro _ _ rfl
 refine ⟨(aK aJ), fun hS => ?_⟩
 refine bL (by kernel_rfl) ?_; clear hS
 refine au (.inr rfl) .nil ?_
 exact ⟨_, ⟨rfl, rfl⟩, oC i4 rfl rfl ho (by simp [Hp.swapL]) (by simpa [Hp.swapL] using h1) h2 (by rw [List.length_append, dr i4] at h3 ⊢; simpa [Hp.swapL] using h3)⟩
 skip
 refine eD rfl rfl (eC (ao aQ rfl (aA (kM hi)))) rfl ?_; clear hS
 rintro _ _ ⟨rfl, rfl⟩
 refine ⟨(aK aJ), fun hS => ?_⟩
 refine bA 16 (by kernel_rfl) rfl rfl (eC (ao aQ rfl (aA (kM hk)))) rfl ?_; clear hS
 rintro _ _ ⟨rfl, rfl⟩
 refine ⟨(aK aJ), fun hS => ?_⟩
 refine aj 24 rfl rfl (by kernel_rfl) (by kernel_rfl) (by kernel_rfl) rfl hS (ce dC az rfl rfl rfl hi (by first | exact Nat.zero_add _ | rfl)) ?_
 refine bA 25 (by kernel_rfl) rfl rfl (cm az rfl rfl rfl (oM hi) (oL hi)) rfl ?_; clear hS
 rintro _ _ rfl
 refine ⟨(aK aJ), fun hS => ?_⟩
 refine aj 26 rfl rfl (by kernel_rfl) (by kernel_rfl) (by kernel_rfl) rfl hS (ce dC az rfl rfl rfl hk (by first | exact Nat.zero_add _ | rfl)) ?_
 refine bA 27 (by kernel_rfl) rfl rfl (cm az rfl rfl rfl (oM (by simpa using hk)) (oL (by simpa using hk))) rfl ?_; clear hS
 rintro _ _ rfl
 refine ⟨(aK aJ), fun hS => ?_⟩
 refine bL (by kernel_rfl) ?_; clear hS
 refine au (.inr rfl) .nil ?_
 exact ⟨_, ⟨rfl, rfl⟩, oC i4 rfl rfl ho (by simp [Hp.swapL]) (by simpa [Hp.swapL] using h1) h2 (by rw [List.length_append, dr i4] at h3 ⊢; simpa [Hp.swapL] using h3)⟩
theorem A8 (W0 : World) (R : List HP) (pb w : Nat) (its : List Nat) (x : Nat) (cs : List Value) :
    aC Tryz.prog W0 496 [jU pb w] (fi w pb (its ++ [x], cs) :: R) (fun v B => v = .iface 3 (.int .i64 (x : Int)) ∧ B = fi w pb (its, cs) :: R) := by
 refine r0 i4 (by simp) (by decide) fun g c sp ho h1 h2 h3 => ?_
 have hl : (its ++ [x]).length = its.length + 1 := by simp
 rw [hl] at h1 ⊢
 have hg : (its ++ [x]).getD its.length default = x := by simp [List.getD]
 have he : (its ++ [x]).flatMap fP ++ sp = its.flatMap fP ++ (fP x ++ sp) := by simp
 have hget := kM (its := its ++ [x]) (sp := sp) (i := its.length) (by omega)
 rw [hg] at hget
 refine aG func496 ntmps496 rfl rfl ?_
 refine ae (ah (aa rfl (ai rfl) (ag (ab (ae (ah (aa rfl (ac rfl) (aa rfl (aF rfl) ?_))))))))
 refine aa rfl (al rfl iz rfl dh rfl (by first | exact Nat.zero_add _ | rfl)) ?_
 refine aa rfl (ao eU rfl (aA (iK ho))) ?_
 refine aa rfl (bu dC rfl) ?_
 refine aa rfl (dX rfl rfl (by rw [aZ (by simp only [maxLen] at h2; omega)]; omega : IntKind.wrap .i64 (((its.length + 1 : Nat) : Int) - 1) = ((its.length : Nat) : Int))) ?_
 refine aa rfl (ai rfl) (ag (ab (ae (ah (aa rfl (ac rfl) (aa rfl (aF rfl) ?_))))))
 refine aa rfl (al rfl iz rfl dh rfl (by first | exact Nat.zero_add _ | rfl)) ?_
 refine aa rfl (ao eU rfl (aA (iK ho))) ?_
 refine aa rfl (ac rfl) ?_
 refine aa rfl (ce dC az rfl rfl rfl (by omega) (by first | exact Nat.zero_add _ | rfl)) ?_
 refine aa rfl (ao aQ rfl (aA hget)) ?_
 refine aa rfl (ai rfl) (ag (ab (ae (ah (aa rfl (ac rfl) (aa rfl (ac rfl) (aa rfl (aF rfl) ?_)))))))
 refine aa rfl (al rfl iz rfl dh rfl (by first | exact Nat.zero_add _ | rfl)) ?_
 refine aa rfl (ao eU rfl (aA (iK ho))) ?_
 refine aa rfl (ac rfl) ?_
 refine aa rfl (kB dC az rfl rfl rfl (by omega)) ?_
 refine aa rfl (aF rfl) ?_
 refine aa rfl (al rfl iz rfl dh rfl (by first | exact Nat.zero_add _ | rfl)) ?_
 refine bD (cm dh rfl rfl rfl (by rw [List.length_set]; exact ho) set_set) ?_
 rintro _ _ rfl
 refine ag (ab (ae (ah (aa rfl (ac rfl) ?_))))
 refine aa rfl (kA eb (fun _ h => by cases h) rfl) ?_
 refine aa rfl (ai rfl) (ag (ab (av (au (.inl rfl) (.cons (ak rfl) .nil) ?_))))
 rw [he]
 exact ⟨_, ⟨rfl, rfl⟩, oC (sp := fP x ++ sp) i4 rfl rfl ho rfl (by omega) h2 (by rw [← he]; exact h3)⟩
theorem A9 (W0 : World) (R : List HP) (pb w : Nat) (its : List Nat) (x : Nat) (cs : List Value) (hn : its.length < 1000) :
    aC Tryz.prog W0 497 [jU pb w, .iface 3 (.int .i64 (x : Int))] (fi w pb (its, cs) :: R) (fun v B => v = .tuple #[] ∧ B = fi w pb (its ++ [x], cs) :: R) := by
 refine qY fun a c ho => ?_
 have he : its.flatMap fP ++ [Value.int .i64 (x : Int)] = (its ++ [x]).flatMap fP := by simp
 refine aG func497 ntmps497 rfl rfl ?_
 refine cA [] 12 cz rfl aJ (fun hS => ?_)
 refine aj 0 rfl rfl (by kernel_rfl) (by kernel_rfl) (by kernel_rfl) rfl hS (ac rfl) ?_
 refine aj 1 rfl rfl (by kernel_rfl) (by kernel_rfl) (by kernel_rfl) rfl hS (ac rfl) ?_
 refine aj 2 rfl rfl (by kernel_rfl) (by kernel_rfl) (by kernel_rfl) rfl hS (aF rfl) ?_
 refine aj 3 rfl rfl (by kernel_rfl) (by kernel_rfl) (by kernel_rfl) rfl hS (al rfl iz rfl dh rfl (by first | exact Nat.zero_add _ | rfl)) ?_
 refine aj 5 rfl rfl (by kernel_rfl) (by kernel_rfl) (by kernel_rfl) rfl hS (ac rfl) ?_
 refine aj 6 rfl rfl (by kernel_rfl) (by kernel_rfl) (by kernel_rfl) rfl hS (oq eb (fun _ h => by cases h) rfl) ?_
 refine io (is := [4, 7]) (by kernel_rfl) rfl ⟨?_, ?_, trivial⟩
 skip
 refine eD rfl rfl (eC (ao eU rfl (aA (iK ho)))) rfl ?_; clear hS
 rintro _ _ ⟨rfl, rfl⟩
 refine ⟨aJ, fun hS => ?_⟩
 refine bA 7 (by kernel_rfl) rfl rfl (gD dC az ma rfl rfl rfl rfl rfl (by decide) (by decide)) rfl ?_; clear hS
 rintro _ _ ⟨b1, rfl, rfl⟩
 refine ⟨aJ, fun hS => ?_⟩
 refine bA 8 (by kernel_rfl) rfl rfl (dP (sz := 1) (by_ := 8) (info := Tryz.t3) dC (by kernel_rfl) rfl rfl rfl rfl (by decide) rfl rfl dQ rfl rfl (by simp only [maxLen]; omega) (by omega)) rfl ?_; clear hS
 rintro _ _ ⟨a1, c1, rfl, rfl⟩
 refine ⟨aJ, fun hS => ?_⟩
 refine aj 9 rfl rfl (by kernel_rfl) (by kernel_rfl) (by kernel_rfl) rfl hS (aF rfl) ?_
 refine aj 10 rfl rfl (by kernel_rfl) (by kernel_rfl) (by kernel_rfl) rfl hS (al rfl iz rfl dh rfl (by first | exact Nat.zero_add _ | rfl)) ?_
 refine bA 11 (by kernel_rfl) rfl rfl (cm dh rfl rfl rfl (by rw [List.length_set]; exact ho) set_set) rfl ?_; clear hS
 rintro _ _ rfl
 refine ⟨aJ, fun hS => ?_⟩
 refine bL (by kernel_rfl) ?_; clear hS
 refine au (.inr rfl) .nil ?_
 exact ⟨_, ⟨rfl, rfl⟩, qZ (its := its ++ [x]) he rfl ho (by simp)⟩
 skip
 refine eD rfl rfl (gD dC az ma rfl rfl rfl rfl rfl (by decide) (by decide)) rfl ?_; clear hS
 rintro _ _ ⟨b1, rfl, rfl⟩
 refine ⟨aJ, fun hS => ?_⟩
 refine bA 4 (by kernel_rfl) rfl rfl (eC (ao eU rfl (aA (iK ho)))) rfl ?_; clear hS
 rintro _ _ ⟨rfl, rfl⟩
 refine ⟨aJ, fun hS => ?_⟩
 refine bA 8 (by kernel_rfl) rfl rfl (dP (sz := 1) (by_ := 8) (info := Tryz.t3) dC (by kernel_rfl) rfl rfl rfl rfl (by decide) rfl rfl dQ rfl rfl (by simp only [maxLen]; omega) (by omega)) rfl ?_; clear hS
 rintro _ _ ⟨a1, c1, rfl, rfl⟩
 refine ⟨aJ, fun hS => ?_⟩
 refine aj 9 rfl rfl (by kernel_rfl) (by kernel_rfl) (by kernel_rfl) rfl hS (aF rfl) ?_
 refine aj 10 rfl rfl (by kernel_rfl) (by kernel_rfl) (by kernel_rfl) rfl hS (al rfl iz rfl dh rfl (by first | exact Nat.zero_add _ | rfl)) ?_
 refine bA 11 (by kernel_rfl) rfl rfl (cm dh rfl rfl rfl (by rw [List.length_set]; exact ho) set_set) rfl ?_; clear hS
 rintro _ _ rfl
 refine ⟨aJ, fun hS => ?_⟩
 refine bL (by kernel_rfl) ?_; clear hS
 refine au (.inr rfl) .nil ?_
 exact ⟨_, ⟨rfl, rfl⟩, qZ (its := its ++ [x]) he rfl ho (by simp)⟩
section
variable (w : World) (a : Addr)
theorem Aa : (method (Tryz.prog.types.size + Made.depth) 454 (.pointer (some a)) "Len").run Tryz.prog w = .ok (299, .pointer (some a)) w := by kernel_rfl
theorem Ab : (method (Tryz.prog.types.size + Made.depth) 454 (.pointer (some a)) "Less").run Tryz.prog w = .ok (495, .pointer (some a)) w := by kernel_rfl
theorem Ac : (method (Tryz.prog.types.size + Made.depth) 454 (.pointer (some a)) "Swap").run Tryz.prog w = .ok (498, .pointer (some a)) w := by kernel_rfl
theorem Ad : (method (Tryz.prog.types.size + Made.depth) 454 (.pointer (some a)) "Push").run Tryz.prog w = .ok (497, .pointer (some a)) w := by kernel_rfl
theorem Ae : (method (Tryz.prog.types.size + Made.depth) 454 (.pointer (some a)) "Pop").run Tryz.prog w = .ok (496, .pointer (some a)) w := by kernel_rfl
end
def v9 (W0 : World) (pb w : Nat) (cs : List Value) : HpO W0 Nat where
  T := 454
  p := jU pb w
  el := fun x => .iface 3 (.int .i64 (x : Int))
  H := fun l => fi w pb (l, cs)
  fL := 299
  fE := 495
  fS := 498
  fU := 497
  fO := 496
  mL := fun u => Aa u _
  mE := fun u => Ab u _
  mS := fun u => Ac u _
  mU := fun u => Ad u _
  mO := fun u => Ae u _
  cL := xD
  cE := call495
  cS := call498
  cU := call497
  cO := call496
  sL := fun R l => rr W0 R pb w l cs
  sE := fun R l i j hi hj => A6 W0 R pb w l cs i j hi hj
  sS := fun R l i j hi hj => A7 W0 R pb w l cs i j hi hj
  sU := fun R l x hl => A9 W0 R pb w l x cs hl
  sO := fun R l x => A8 W0 R pb w l x cs
theorem Af (W0 : World) (R : List HP) (pb w : Nat) (its : List Nat) (x : Nat) (cs : List Value) (hN : its.length < 900) (hh : Hp.Heap its its.length) :
    aC Tryz.prog W0 176 [.iface 454 (jU pb w), .iface 3 (.int .i64 (x : Int))] (fi w pb (its, cs) :: R) (fun v B => v = .tuple #[] ∧ ∃ its', B = fi w pb (its', cs) :: R ∧ its'.Perm (its ++ [x]) ∧ Hp.Heap its' its'.length) :=
  Hp.heapPush_spec (v9 W0 pb w cs) R its x hN hh
theorem Ag (W0 : World) (R : List HP) (pb w : Nat) (its : List Nat) (cs : List Value) (hN : its.length < 900) (h0 : its ≠ []) (hh : Hp.Heap its its.length) :
    aC Tryz.prog W0 300 [.iface 454 (jU pb w)] (fi w pb (its, cs) :: R) (fun v B => ∃ x its', v = .iface 3 (.int .i64 ((x : Nat) : Int)) ∧ B = fi w pb (its', cs) :: R ∧ (its' ++ [x]).Perm its ∧ Hp.Heap its' its'.length ∧ ∀ y ∈ its, (x : Int) ≤ (y : Int)) :=
  Hp.heapPop_spec (v9 W0 pb w cs) R its hN h0 hh
def oN (x : Prt) : Nat := if x.gu = -1 then 64 else 4
def lL (ps : List Prt) : Prop := ps.length ≤ 8 ∧ ∀ x ∈ ps, x.l.length ≤ oN x
theorem lL.at_ {ps : List Prt} (h : lL ps) {i : Nat} (hi : i < ps.length) : (ps.getD i default).l.length ≤ oN (ps.getD i default) := by
 rw [show ps.getD i default = ps[i] by simp [List.getD, hi]]; exact h.2 _ (List.getElem_mem hi)
theorem lL.set {ps : List Prt} (h : lL ps) {i : Nat} {x : Prt} (hx : x.l.length ≤ oN x) : lL (ps.set i x) := ⟨by simpa using h.1, fun y hy => by
 rcases List.mem_or_eq_of_mem_set hy with q | q
 exact h.2 y q
 rw [q]; exact hx⟩
abbrev iN := Int × Int
@[reducible] def ru (x : iN) : List Value := [.int .i64 x.1, .int .i64 x.2]
def gm (l : List iN) : List Prt := l.map fun x => ⟨x.1, x.2, []⟩
theorem rx (l : List iN) : (gm l).length = l.length := by simp [gm]
def du : Value := .slice none 0 0
theorem vd {R : List HP} : ∀ l : List iN, Ent R (kH 2 (bB (((List.replicate l.length du).zip (gm l)).map jT)) :: R)
 | [] => fY (A := [])
 | x :: l => by
  have ih := vd (R := R) l
  refine ih.trans ?_
  refine (ik (A := ((List.replicate l.length du).zip (gm l)).map jT) (R := R)).trans ?_
  refine (fH (E := 9) (sz := 1) (B := ((List.replicate l.length du).zip (gm l)).map jT ++ R)).trans ?_
  exact fY (A := jT (du, ⟨x.1, x.2, []⟩) :: ((List.replicate l.length du).zip (gm l)).map jT) (R := R)
theorem Ah (l : List iN) : ((List.replicate l.length du).zip (gm l)).flatMap oH = l.flatMap fun x => [.int .i64 x.1, .int .i64 x.2, du] := by
 induction l with
 | nil => rfl
 | cons x l ih =>
  rw [List.flatMap_cons, ← ih]
  rfl
theorem Ai (l : List iN) (a : Option Addr) (n c : Nat) (hln : l.length = n) (hn : n ≤ 8) (hs : cF (bK W0 R) a 2 ru l) (hlab : ∀ x ∈ l, dG x.1 = true) :
    aC Tryz.prog W0 50 [.slice a n c] R (fun v B => ∃ p, v = .tuple #[.pointer (some ⟨p, 0, none⟩), .int .i64 0] ∧ B = oI p (gm l) :: R) := by
 subst hln
 refine aG func50 ntmps50 rfl rfl ?_
 refine ae (ah (aa rfl (ai rfl) (aa rfl (ai rfl) (ag (ab (ae (ae (ah (aa rfl (ac rfl) (aa rfl (bu f8 rfl) (aa rfl (cy rfl rfl) (ag (ab ?_)))))))))))))
 refine aw rfl ?_ ?_
 intro c1
 omega
 intro c1
 refine aB (ab (ae (ah (aa rfl (bY sZ zeroValue267 (aH nE (aH cB bX)) (bq rfl cB rfl rfl (Nat.le_of_ble_eq_true rfl) SetL.eq bW)) ?_))))
 refine am rfl (bJ rfl) ?_
 rintro _ _ ⟨p, rfl, rfl⟩
 refine aa rfl (ai rfl) (ag (ab (ae (ae (ah (aa rfl (ac rfl) (aa rfl (bu f8 rfl) (aa rfl (ac rfl) (ag (ab (aW ?_)))))))))))
 refine cT (fun X : Nat × Option Addr × Nat => X.1 ≤ l.length) (fun X => [(4, .pointer (some ⟨p, 0, none⟩)), (12, .slice a l.length c), (13, .int .i64 (l.length : Nat)), (14, .int .i64 X.1)]) (fun X => pt p (ax [.slice X.2.1 X.1 X.2.2, .bool true] 267) :: osl 270 3 (.slice X.2.1 X.1 X.2.2) ((l.take X.1).flatMap fun x => [.int .i64 x.1, .int .i64 x.2, du]) :: R) (fun X => l.length - X.1) (0, none, 0) ?_ ?_ ?_ ?_
 exact Nat.zero_le _
 · repeat (first | exact aX | refine aV rfl ?_)
 exact (Ent.cons (fH (E := 270) (sz := 3)))
 intro ⟨i, a2, c2⟩ hi
 dsimp only at hi ⊢
 refine ae (ah (aa rfl (b0 rfl rfl) (ag (ab (ae ?_)))))
 refine aw rfl ?_ ?_
 intro c5
 have hi1 : i < l.length := by omega
 obtain ⟨g, o, rfl, hc⟩ := hs.at_ hi1
 have hlb := hlab _ (List.getElem_mem hi1)
 have htk : l.take (i + 1) = l.take i ++ [l[i]] := List.take_succ_eq_append_getElem hi1
 refine aB (ab (ae (aW (ae (ah ?_)))))
 refine aa rfl (ce f8 fe rfl rfl rfl hi1 (by first | exact Nat.zero_add _ | rfl)) ?_
 refine aa rfl (cV nF fe rfl hc.weak rfl) ?_
 refine am rfl (cM ke) ?_
 rintro _ _ ⟨bx, rfl, rfl⟩
 refine bD (cD fe rfl rfl rfl rfl rfl) ?_
 rintro _ _ rfl
 refine ag (ab (ae (ae (ah ?_))))
 refine aa rfl (al rfl eG rfl az rfl (by first | exact Nat.zero_add _ | rfl)) ?_
 refine aa rfl (ao aQ rfl (aA rfl)) ?_
 refine am rfl (aU call126 rfl (uR l[i].1)) ?_
 rintro _ B_ ⟨m, rfl, hm, hB_⟩
 obtain rfl := hB_.symm
 rw [hlb] at hm
 have hm0 : ¬ m < 0 := by simpa using hm
 refine aa rfl (b0 rfl rfl) (ag (ab ?_))
 refine aw rfl ?_ ?_
 intro c7
 exact absurd c7 hm0
 intro c7
 refine aB (ab ?_)
 refine cA [(bx, 0, _)] 12 cz rfl (aK aJ) (fun hS => ?_)
 refine aj 0 rfl rfl (by kernel_rfl) (by kernel_rfl) (by kernel_rfl) rfl hS (ac rfl) ?_
 refine aj 1 rfl rfl (by kernel_rfl) (by kernel_rfl) (by kernel_rfl) rfl hS (ac rfl) ?_
 refine aj 2 rfl rfl (by kernel_rfl) (by kernel_rfl) (by kernel_rfl) rfl hS (aF rfl) ?_
 refine aj 3 rfl rfl (by kernel_rfl) (by kernel_rfl) (by kernel_rfl) rfl hS (al rfl sZ rfl nE rfl (by first | exact Nat.zero_add _ | rfl)) ?_
 refine aj 5 rfl rfl (by kernel_rfl) (by kernel_rfl) (by kernel_rfl) rfl hS (cV nF fe rfl (dm (k := 0) rfl) rfl) ?_
 refine aj 6 rfl rfl (by kernel_rfl) (by kernel_rfl) (by kernel_rfl) rfl hS (bY underlying270 xE (aH fe (aH mb bX)) (im rfl fe rfl rfl (Nat.le_of_ble_eq_true rfl) SetRL.eq bW)) ?_
 refine io (is := [4, 7]) (by kernel_rfl) rfl ⟨?_, ?_, trivial⟩
 skip
 refine eD rfl rfl (eC (ao isAgg265 rfl (aA rfl))) rfl ?_; clear hS
 rintro _ _ ⟨rfl, rfl⟩
 refine ⟨(aK aJ), fun hS => ?_⟩
 refine bA 7 (by kernel_rfl) rfl rfl (g5 t0 sizeOf270 xE rfl (eN rfl rfl fZ) rfl (by decide) (by decide) (by decide)) rfl ?_; clear hS
 rintro _ _ ⟨b3, rfl, rfl⟩
 refine ⟨(aK aJ), fun hS => ?_⟩
 refine bA 8 (by kernel_rfl) rfl rfl (dP (sz := 3) (by_ := 40) (info := Tryz.t270) t0 (by kernel_rfl) rfl rfl rfl rfl (by decide) rfl rfl dQ rfl rfl (by simp only [maxLen]; omega) (by omega)) rfl ?_; clear hS
 rintro _ _ ⟨a3, c3, rfl, rfl⟩
 refine ⟨(aK aJ), fun hS => ?_⟩
 refine aj 9 rfl rfl (by kernel_rfl) (by kernel_rfl) (by kernel_rfl) rfl hS (aF rfl) ?_
 refine aj 10 rfl rfl (by kernel_rfl) (by kernel_rfl) (by kernel_rfl) rfl hS (al rfl sZ rfl nE rfl (by first | exact Nat.zero_add _ | rfl)) ?_
 refine bA 11 (by kernel_rfl) rfl rfl (cm nE rfl rfl rfl (Nat.le_of_ble_eq_true rfl) SetL.eq) rfl ?_; clear hS
 rintro _ _ rfl
 refine ⟨(aK aJ), fun hS => ?_⟩
 refine bL (by kernel_rfl) ?_; clear hS
 refine bH (ab (ah ?_))
 refine aa rfl (bF rfl rfl (by first | exact aZ (by omega) | rfl)) ?_
 refine aa rfl (ac rfl) (ag (ab ?_))
 refine cG (i + 1, a3, c3) ?_ ?_ ?_ ?_
 omega
 omega
 · repeat (first | exact aX | refine aV rfl ?_)
 dsimp only
 rw [htk, List.flatMap_append]
 show Ent _ (pt p (ax [.slice a3 (i + 1) c3, .bool true] 267) :: osl 270 3 (.slice a3 (i + 1) c3) (((l.take i).flatMap fun x => [.int .i64 x.1, .int .i64 x.2, du]) ++ [[.int .i64 l[i].1, .int .i64 l[i].2, .slice none 0 0]].flatten) :: R)
 exact inferInstance
 skip
 refine eD rfl rfl (g5 t0 sizeOf270 xE rfl (eN rfl rfl fZ) rfl (by decide) (by decide) (by decide)) rfl ?_; clear hS
 rintro _ _ ⟨b3, rfl, rfl⟩
 refine ⟨(aK aJ), fun hS => ?_⟩
 refine bA 4 (by kernel_rfl) rfl rfl (eC (ao isAgg265 rfl (aA rfl))) rfl ?_; clear hS
 rintro _ _ ⟨rfl, rfl⟩
 refine ⟨(aK aJ), fun hS => ?_⟩
 refine bA 8 (by kernel_rfl) rfl rfl (dP (sz := 3) (by_ := 40) (info := Tryz.t270) t0 (by kernel_rfl) rfl rfl rfl rfl (by decide) rfl rfl dQ rfl rfl (by simp only [maxLen]; omega) (by omega)) rfl ?_; clear hS
 rintro _ _ ⟨a3, c3, rfl, rfl⟩
 refine ⟨(aK aJ), fun hS => ?_⟩
 refine aj 9 rfl rfl (by kernel_rfl) (by kernel_rfl) (by kernel_rfl) rfl hS (aF rfl) ?_
 refine aj 10 rfl rfl (by kernel_rfl) (by kernel_rfl) (by kernel_rfl) rfl hS (al rfl sZ rfl nE rfl (by first | exact Nat.zero_add _ | rfl)) ?_
 refine bA 11 (by kernel_rfl) rfl rfl (cm nE rfl rfl rfl (Nat.le_of_ble_eq_true rfl) SetL.eq) rfl ?_; clear hS
 rintro _ _ rfl
 refine ⟨(aK aJ), fun hS => ?_⟩
 refine bL (by kernel_rfl) ?_; clear hS
 refine bH (ab (ah ?_))
 refine aa rfl (bF rfl rfl (by first | exact aZ (by omega) | rfl)) ?_
 refine aa rfl (ac rfl) (ag (ab ?_))
 refine cG (i + 1, a3, c3) ?_ ?_ ?_ ?_
 omega
 omega
 · repeat (first | exact aX | refine aV rfl ?_)
 dsimp only
 rw [htk, List.flatMap_append]
 show Ent _ (pt p (ax [.slice a3 (i + 1) c3, .bool true] 267) :: osl 270 3 (.slice a3 (i + 1) c3) (((l.take i).flatMap fun x => [.int .i64 x.1, .int .i64 x.2, du]) ++ [[.int .i64 l[i].1, .int .i64 l[i].2, .slice none 0 0]].flatten) :: R)
 exact inferInstance
 intro c5
 refine cj (bi (bi (co (ab (ae (ah (aa rfl (ac rfl) (aa rfl (ai rfl) (aa rfl (ai rfl) (ag (ab (av (au (.inl rfl) (.cons (ak rfl) (.cons (ak rfl) .nil)) ?_)))))))))))))
 obtain rfl : i = l.length := by omega
 rw [List.take_of_length_le (Nat.le_refl _), ← Ah l]
 refine ⟨_, ⟨p, rfl, rfl⟩, ?_⟩
 exact (Ent.cons (Ent.cons (vd (R := R) l))).trans (A3 (by rw [List.length_replicate, rx]) (rx l).symm)
theorem Aj (W0 : World) (R : List HP) (ps : Nat) (fr : List bZ) (f : Nat) (hf : f < fr.length) :
    aC Tryz.prog W0 339 [.pointer (some ⟨ps, 0, none⟩), .int .i64 f] (bG ps fr :: R) (fun v B => v = .int .i64 0 ∧ B = bG ps (fr.set f bE) :: R) := by
 have hi : dy fr.length f = true := by simp only [dy, decide_eq_true_eq]; omega
 refine aG func339 ntmps339 rfl rfl ?_
 refine ae (ah (aa rfl (ai rfl) (ag (ab (ae (ae (ah (aa rfl (ac rfl) (aa rfl (ac rfl) (am rfl (bn nB rfl (lG W0 _ ps fr f)) ?_))))))))))
 rintro _ B_ ⟨rfl, hB_⟩
 obtain rfl := hB_.symm
 refine aa rfl (ai rfl) (ag (ab (ae (ah (aa rfl (ac rfl) (aa rfl (bI rfl rfl) (ag (ab ?_))))))))
 refine aw rfl ?_ ?_
 intro c2
 exact absurd c2 (by simp [hi])
 intro c2
 refine aB (ab (ae ?_))
 refine lE (ps := ps) fun g => ?_
 refine ah (aa rfl (ac rfl) (aa rfl (aF rfl) ?_))
 refine aa rfl (al rfl kc rfl kd rfl (by first | exact Nat.zero_add _ | rfl)) ?_
 refine aa rfl (ao m8 rfl (aA rfl)) ?_
 refine aa rfl (ac rfl) (aa rfl (mY pG gV zeroValue178 rfl) ?_)
 refine aa rfl (ce kZ nD rfl rfl rfl hf (by first | exact Nat.zero_add _ | rfl)) ?_
 refine bD (iZ nD rfl rfl rfl rfl (by rw [uv]; omega) (uu (y := bE) hf rfl)) ?_
 rintro _ _ rfl
 refine ag (ab (ae (ah (aa rfl (ai rfl) (ag (ab (av (au (.inl rfl) (.cons (ak rfl) .nil) ?_))))))))
 exact ⟨_, ⟨rfl, rfl⟩, jj rfl (by simp)⟩
theorem oO (W0 : World) (R : List HP) (pb ps : Nat) (po : Po) (h0 : 0 < po.length) :
    aC Tryz.prog W0 257 [.pointer (some ⟨pb, 0, none⟩)] (da pb (ps, po) :: R) (fun v B => v = .bool false ∧ B = da pb (ps, po) :: R) := by
 refine v6 fun a c vs Ls hv hL => ?_
 refine aG func257 ntmps257 rfl rfl ?_
 refine ae (ah (aa rfl (ai rfl) (ag (ab (ae (ah (aa rfl (ac rfl) (aa rfl (dv Fg rfl rfl) (aa rfl (ac rfl) ?_)))))))))
 refine bC rfl rfl rfl ?_ ?_
 intro g1_3
 cases g1_3
 intro g1_3
 refine aa rfl (ac rfl) (ar rfl rfl (aa rfl (aF rfl) (ar rfl rfl ?_)))
 refine aa rfl (al rfl ib rfl jq rfl (by first | exact Nat.zero_add _ | rfl)) ?_
 refine ar rfl rfl (aa rfl (ao l5 rfl (aA rfl)) ?_)
 refine ar rfl rfl (aa rfl (bu kf rfl) (ar rfl rfl (aa rfl (cu rfl rfl) (aa rfl (aM rfl rfl) (aa rfl (ai rfl) (ag (ab (av (au (.inl rfl) (.cons (ak rfl) .nil) ?_)))))))))
 exact ⟨_, ⟨by simp [cH, show po ≠ [] from fun e => by subst e; simp at h0], rfl⟩, lK rfl hv hL rfl rfl⟩
theorem ve (W0 : World) (R : List HP) (pb ps : Nat) (po : Po) (f : Int) :
    aC Tryz.prog W0 258 [.pointer (some ⟨pb, 0, none⟩), .int .i64 f] (da pb (ps, po) :: R) (fun v B => v = .bool (dy po.length f) ∧ B = da pb (ps, po) :: R) := by
 refine v6 fun a c vs Ls hv hL => ?_
 refine aG func258 ntmps258 rfl rfl ?_
 refine ae (ah (aa rfl (ai rfl) (ag (ab (ae (ah (aa rfl (ac rfl) (aa rfl (cK rfl rfl) (aa rfl (ac rfl) ?_)))))))))
 refine cJ rfl rfl rfl ?_ ?_
 intro g1_3
 refine aa rfl (ac rfl) (ar rfl rfl (aa rfl (ac rfl) (ar rfl rfl (aa rfl (aF rfl) (ar rfl rfl ?_)))))
 refine aa rfl (al rfl ib rfl jq rfl (by first | exact Nat.zero_add _ | rfl)) ?_
 refine ar rfl rfl (aa rfl (ao l5 rfl (aA rfl)) ?_)
 refine ar rfl rfl (aa rfl (bu kf rfl) (ar rfl rfl (aa rfl (b0 rfl rfl) (aa rfl (aY rfl rfl) (aa rfl (ai rfl) (ag (ab (av (au (.inl rfl) (.cons (ak rfl) .nil) ?_)))))))))
 refine ⟨_, ⟨?_, rfl⟩, lK rfl hv hL rfl rfl⟩
 refine congrArg Value.bool ?_
 rw [Bool.eq_iff_iff, dy, decide_eq_true_iff]
 first
   | (rw [decide_eq_true_iff]; constructor <;> (intro q; omega))
   | (constructor
      · intro q; first | omega | (cases q)
      intro q; omega)
 intro g1_3
 refine ap rfl rfl rfl rfl (ap rfl rfl rfl rfl (ap rfl rfl rfl rfl (ap rfl rfl rfl rfl (ap rfl rfl rfl rfl (ap rfl rfl rfl rfl (aa rfl (aM rfl rfl) (aa rfl (ai rfl) (ag (ab (av (au (.inl rfl) (.cons (ak rfl) .nil) ?_)))))))))))
 refine ⟨_, ⟨?_, rfl⟩, lK rfl hv hL rfl rfl⟩
 refine congrArg Value.bool ?_
 rw [Bool.eq_iff_iff, dy, decide_eq_true_iff]
 first
   | (rw [decide_eq_true_iff]; constructor <;> (intro q; omega))
   | (constructor
      · intro q; first | omega | (cases q)
      intro q; omega)
def jE (w : Int) : Bool := decide (0 ≤ w ∧ w < 16)
theorem ry (W0 : World) (R : List HP) (w : Int) :
    aC Tryz.prog W0 259 [.int .i64 w] R (fun v B => v = .bool (jE w) ∧ B = R) := by
 refine aG func259 ntmps259 rfl rfl ?_
 refine ae (ah (aa rfl (ai rfl) (ag (ab (ae (ah (aa rfl (ac rfl) (aa rfl (cK rfl rfl) (aa rfl (ac rfl) ?_)))))))))
 refine cJ rfl rfl rfl ?_ ?_
 intro g1_3
 refine aa rfl (ac rfl) (ar rfl rfl (aa rfl (b0 rfl rfl) (aa rfl (aY rfl rfl) (aa rfl (ai rfl) (ag (ab (av (au (.inl rfl) (.cons (ak rfl) .nil) ?_))))))))
 refine ⟨_, ⟨?_, rfl⟩, inferInstance⟩
 refine congrArg Value.bool ?_
 rw [Bool.eq_iff_iff, jE, decide_eq_true_iff]
 first
   | (rw [decide_eq_true_iff]; constructor <;> (intro q; omega))
   | (constructor
      · intro q; first | omega | (cases q)
      intro q; omega)
 intro g1_3
 refine ap rfl rfl rfl rfl (aa rfl (aM rfl rfl) (aa rfl (ai rfl) (ag (ab (av (au (.inl rfl) (.cons (ak rfl) .nil) ?_))))))
 refine ⟨_, ⟨?_, rfl⟩, inferInstance⟩
 refine congrArg Value.bool ?_
 rw [Bool.eq_iff_iff, jE, decide_eq_true_iff]
 first
   | (rw [decide_eq_true_iff]; constructor <;> (intro q; omega))
   | (constructor
      · intro q; first | omega | (cases q)
      intro q; omega)
theorem Ak (n : Nat) : (List.replicate n ((-1 : Int), false)).flatMap dJ ++ [[Value.int .i64 (-1), .bool false]].flatten = (List.replicate (n + 1) ((-1 : Int), false)).flatMap dJ := by
 rw [List.replicate_succ', List.flatMap_append]; rfl
theorem vf {R : List HP} : ∀ n : Nat, Ent R (kH 2 (bB (((List.replicate n du).zip (List.replicate n ([] : List Nat))).map dt)) :: R)
 | 0 => fY (A := [])
 | n + 1 => by
  have ih := vf (R := R) n
  refine ih.trans ?_
  refine (ik (A := ((List.replicate n du).zip (List.replicate n ([] : List Nat))).map dt) (R := R)).trans ?_
  refine (fH (E := 3) (sz := 1) (B := ((List.replicate n du).zip (List.replicate n ([] : List Nat))).map dt ++ R)).trans ?_
  exact fY (A := dt (du, []) :: ((List.replicate n du).zip (List.replicate n ([] : List Nat))).map dt) (R := R)
theorem Al (W0 : World) (R : List HP) (ps : Nat) (fr : List bZ) (h0 : 0 < fr.length) (h32 : fr.length ≤ 32) :
    aC Tryz.prog W0 121 [.pointer (some ⟨ps, 0, none⟩)] (bG ps fr :: R)
      (fun v B => ∃ pb, v = .tuple #[.pointer (some ⟨pb, 0, none⟩), .int .i64 0] ∧ B = da pb (ps, List.replicate fr.length (-1, false)) :: bG ps fr :: R) := by
 refine aG func121 ntmps121 rfl rfl ?_
 refine ae (ah (aa rfl (ai rfl) (aa rfl (ai rfl) (ag (ab (ae (ae (ah (aa rfl (ac rfl) (am rfl (bn nG rfl (lF W0 _ ps fr)) ?_))))))))))
 rintro _ B_ ⟨rfl, hB_⟩
 obtain rfl := hB_.symm
 refine aa rfl (cu rfl rfl) (ag (ab ?_))
 refine aw rfl ?_ ?_
 intro c1
 omega
 intro c1
 refine aB (ab (ae (ah (aa rfl (ac rfl) (aa rfl (bY ib zeroValue420 (aH iA (aH jq (aH pJ bX))) (bq rfl iA rfl rfl (Nat.le_of_ble_eq_true rfl) SetL.eq bW)) ?_)))))
 refine am rfl (bJ rfl) ?_
 rintro _ _ ⟨pb, rfl, rfl⟩
 refine aa rfl (ai rfl) (ag (ab (ae (ae (ah (aa rfl (ac rfl) (am rfl (bn nG rfl (lF W0 _ ps fr)) ?_)))))))
 rintro _ B_ ⟨rfl, hB_⟩
 obtain rfl := hB_.symm
 refine aa rfl (ac rfl) (ag (ab (aW ?_)))
 refine cT (fun X : Nat × Option Addr × Nat => X.1 ≤ fr.length) (fun X => [(4, .pointer (some ⟨pb, 0, none⟩)), (12, .int .i64 (fr.length : Nat)), (13, .int .i64 X.1)]) (fun X => pt pb (ax (ez ps (.slice X.2.1 X.1 X.2.2) (List.replicate 16 du)) 420) :: osl 422 2 (.slice X.2.1 X.1 X.2.2) ((List.replicate X.1 ((-1 : Int), false)).flatMap dJ) :: bG ps fr :: R) (fun X => fr.length - X.1) (0, none, 0) ?_ ?_ ?_ ?_
 exact Nat.zero_le _
 · repeat (first | exact aX | refine aV rfl ?_)
 exact (Ent.ofPerm (List.Perm.swap _ _ _)).trans (Ent.cons (fH (E := 422) (sz := 2)))
 intro ⟨i, a2, c2⟩ hi
 dsimp only at hi ⊢
 refine ae (ah (aa rfl (b0 rfl rfl) (ag (ab (ae ?_)))))
 refine aw rfl ?_ ?_
 intro c5
 refine aB (ab (ae (aW (ah (aa rfl (ac rfl) (aa rfl (ac rfl) (aa rfl (aF rfl) ?_)))))))
 refine aa rfl (al rfl ib rfl jq rfl (by first | exact Nat.zero_add _ | rfl)) ?_
 refine aa rfl (ao l5 rfl (aA rfl)) ?_
 refine aa rfl (bY nH Fh (aH az (aH cB bX)) (bq rfl az rfl rfl (Nat.le_of_ble_eq_true rfl) SetL.eq bW)) ?_
 refine am rfl (g5 kf nI Fh rfl (eN rfl rfl fZ) rfl (by decide) (by decide) (by decide)) ?_
 rintro _ _ ⟨b2, rfl, rfl⟩
 refine am rfl (dP (sz := 2) (by_ := 16) (info := Tryz.t422) kf (by kernel_rfl) rfl rfl rfl rfl (by decide) rfl rfl dQ rfl rfl (by simp only [maxLen]; omega) (by omega)) ?_
 rintro _ _ ⟨a3, c3, rfl, rfl⟩
 refine aa rfl (aF rfl) ?_
 refine aa rfl (al rfl ib rfl jq rfl (by first | exact Nat.zero_add _ | rfl)) ?_
 refine bD (cm jq rfl rfl rfl (Nat.le_of_ble_eq_true rfl) SetL.eq) ?_
 rintro _ _ rfl
 refine ag (bH (ab (ah ?_)))
 refine aa rfl (bF rfl rfl (by first | exact aZ (by omega) | rfl)) ?_
 refine aa rfl (ac rfl) (ag (ab ?_))
 refine cG (i + 1, a3, c3) ?_ ?_ ?_ ?_
 show i + 1 ≤ fr.length; omega
 show fr.length - (i + 1) < fr.length - i; omega
 · repeat (first | exact aX | refine aV rfl ?_)
 dsimp only
 rw [← Ak]
 exact inferInstance
 intro c5
 refine cj (bi (bi (co (ab (ae (ah (aa rfl (ac rfl) (aa rfl (ai rfl) (aa rfl (ai rfl) (ag (ab (av (au (.inl rfl) (.cons (ak rfl) (.cons (ak rfl) .nil)) ?_)))))))))))))
 obtain rfl : i = fr.length := by omega
 refine ⟨_, ⟨pb, rfl, rfl⟩, ?_⟩
 exact (Ent.cons (Ent.cons (vf (R := bG ps fr :: R) 16))).trans (lK (a := a2) (c := c2) rfl (by simp) (LsOk.new _) (by simp) rfl)
theorem Am (W0 : World) (R : List HP) (pb ps : Nat) (po : Po) (fr : List bZ) (f w : Nat) (t : Bool) (hf : f < po.length) (hff : f < fr.length) (hw : w < 16) (hP : PoOk po) (ha : d7 po f = ((w : Int), t))
    (a : Option Addr) (c : Nat) (vs : List Value) (Ls : List (List Nat)) (hv : vs.length = 16) (hL : LsOk (po.set f (-1, false)) Ls) :
    aC Tryz.prog W0 260 [.pointer (some ⟨pb, 0, none⟩), .int .i64 f] (pt pb (ax (ez ps (.slice a po.length c) vs) 420) :: osl 422 2 (.slice a po.length c) (po.flatMap dJ) :: kH 2 (bB ((vs.zip Ls).map dt)) :: bG ps fr :: R)
      (fun v B => v = .int .i64 0 ∧ B = da pb (ps, po.set f ((w : Int), false)) :: bG ps (fr.set f bE) :: R) := by
 have hrow := hL.row w hw
 have hP1 : PoOk (po.set f (-1, false)) := ⟨by rw [List.length_set]; exact hP.len, fun g hg => by
  rw [List.length_set] at hg
  rw [jD hf]
  split
  exact ⟨by decide, by decide, fun _ => rfl⟩
  exact hP.who g hg⟩
 have hrl := hL.rlen hP1 hw
 have hown := zG (po := po.set f (-1, false)) (f := f) (w := w) (by rw [List.length_set]; exact hf) (by rw [jD hf, if_pos rfl]; intro e; have := (Prod.mk.inj e).1; omega)
 rw [List.set_set] at hown
 have hoth : ∀ u, u < 16 → u ≠ w → bP (po.set f ((w : Int), false)) u = bP (po.set f (-1, false)) u := fun u hu hne => by
  have := qN (po := po.set f (-1, false)) (f := f) (x := ((w : Int), false)) (w := u) (by rw [List.length_set]; exact hf) (by rw [jD hf, if_pos rfl]; intro e; have := (Prod.mk.inj e).1; omega) (by intro e; have := (Prod.mk.inj e).1; omega)
  rw [List.set_set] at this
  exact this
 have hset : (po.set f ((d7 po f).1, false)) = po.set f ((w : Int), false) := by rw [ha]
 refine aG func260 ntmps260 rfl rfl ?_
 refine ae (ah (aa rfl (ai rfl) (ag (ab (ae ?_)))))
 refine ed (r := osl 422 2) (b := .slice a po.length c) (gN (fun h1 h2 => by have := congrArg List.length h2; rw [iM] at this; simp at this; omega) fun g n cap sp h1 h2 h3 h4 h5 => ?_)
 cases h1
 refine ah (aa rfl (ac rfl) (aa rfl (aF rfl) ?_))
 refine aa rfl (al rfl ib rfl jq rfl (by first | exact Nat.zero_add _ | rfl)) ?_
 refine aa rfl (ao l5 rfl (aA rfl)) ?_
 refine aa rfl (ac rfl) ?_
 refine aa rfl (ce kf nI rfl rfl rfl hf (by first | exact Nat.zero_add _ | rfl)) ?_
 refine aa rfl (al rfl nH rfl cB rfl (by first | exact Nat.zero_add _ | rfl)) ?_
 refine bD (cm cB rfl rfl rfl (by rw [List.length_append, iM]; omega) (v8 po sp f false hf)) ?_
 rintro _ _ rfl
 refine ag (ab (ae ?_))
 rw [hset]
 refine f9 (B := pt g (ax ((po.set f ((w : Int), false)).flatMap dJ ++ sp) 422) :: fi w pb (Ls.getD w [], ez ps (.slice (some ⟨g, 0, none⟩) po.length c) vs) :: kH 3 (bB (((vs.zip Ls).map dt).eraseIdx w)) :: bG ps fr :: R) ?_ ?_
 refine Ent.cons ?_
 exact rp hw hv hL.len
 have hg0 : ((po.set f ((w : Int), false)).flatMap dJ ++ sp)[f * 2 + 0]? = some (.int .i64 ((w : Nat) : Int)) := by
  rw [v7 _ _ _ _ (by rw [List.length_set]; exact hf) (by decide), jD hf, if_pos rfl]; rfl
 have hgl : ((po.set f ((w : Int), false)).flatMap dJ ++ sp).length = c * 2 := by
  rw [List.length_append, iM, List.length_set] at *; omega
 refine cA [(pb, 1, [.slice (some ⟨g, 0, none⟩) po.length c]), (g, 0, _)] 16 cz rfl (cW (uO (T := 420) (E := 3) (sz := 1) (f := fP) (o := 2 + w * 1) (by omega) rfl) (aK aJ)) (fun hS => ?_)
 refine aj 0 rfl rfl (by kernel_rfl) (by kernel_rfl) (by kernel_rfl) rfl hS (ac rfl) ?_
 refine aj 1 rfl rfl (by kernel_rfl) (by kernel_rfl) (by kernel_rfl) rfl hS (ac rfl) ?_
 refine aj 2 rfl rfl (by kernel_rfl) (by kernel_rfl) (by kernel_rfl) rfl hS (aF rfl) ?_
 refine aj 3 rfl rfl (by kernel_rfl) (by kernel_rfl) (by kernel_rfl) rfl hS (al rfl ib rfl jq rfl (by first | exact Nat.zero_add _ | rfl)) ?_
 refine aj 4 rfl rfl (by kernel_rfl) (by kernel_rfl) (by kernel_rfl) rfl hS (ao l5 rfl (fv (k := 0) (j := 0) rfl rfl)) ?_
 refine aj 5 rfl rfl (by kernel_rfl) (by kernel_rfl) (by kernel_rfl) rfl hS (ac rfl) ?_
 refine aj 6 rfl rfl (by kernel_rfl) (by kernel_rfl) (by kernel_rfl) rfl hS (ce kf nI rfl rfl rfl hf (by first | exact Nat.zero_add _ | rfl)) ?_
 refine aj 7 rfl rfl (by kernel_rfl) (by kernel_rfl) (by kernel_rfl) rfl hS (al rfl nH rfl az rfl (by first | exact Nat.zero_add _ | rfl)) ?_
 refine aj 8 rfl rfl (by kernel_rfl) (by kernel_rfl) (by kernel_rfl) rfl hS (ao aQ rfl (aD (k := 1) rfl hg0)) ?_
 refine aj 9 rfl rfl (by kernel_rfl) (by kernel_rfl) (by kernel_rfl) rfl hS (aF rfl) ?_
 refine aj 10 rfl rfl (by kernel_rfl) (by kernel_rfl) (by kernel_rfl) rfl hS (al rfl ib rfl pJ rfl (by first | exact Nat.zero_add _ | rfl)) ?_
 refine aj 11 rfl rfl (by kernel_rfl) (by kernel_rfl) (by kernel_rfl) rfl hS (dO t1 t2 rfl rfl rfl hw (by first | exact Nat.zero_add _ | rfl)) ?_
 refine aj 12 rfl rfl (by kernel_rfl) (by kernel_rfl) (by kernel_rfl) rfl hS (kA Fi (fun _ h => by cases h) rfl) ?_
 refine aj 13 rfl rfl (by kernel_rfl) (by kernel_rfl) (by kernel_rfl) rfl hS (ac rfl) ?_
 refine aj 14 rfl rfl (by kernel_rfl) (by kernel_rfl) (by kernel_rfl) rfl hS (kA eb (fun _ h => by cases h) rfl) ?_
 refine bA 15 (by kernel_rfl) rfl rfl (bn call176 rfl (Af W0 _ pb w (Ls.getD w []) f (ez ps (.slice (some ⟨g, 0, none⟩) po.length c) vs) (by omega) hrow.2)) rfl ?_; clear hS
 rintro _ _ ⟨rfl, l', rfl, hp, hh⟩
 refine ⟨(cW (uO (T := 420) (E := 3) (sz := 1) (f := fP) (o := 2 + w * 1) (by omega) rfl) (aK aJ)), fun hS => ?_⟩
 refine bL (by kernel_rfl) ?_; clear hS
 refine ab (ae ?_)
 refine f9 (B := da pb (ps, po.set f ((w : Int), false)) :: bG ps fr :: R) ?_ ?_
 have e := fa (E := 422) (sz := 2) (g := g) (n := po.length) (cap := c) (xs := (po.set f ((w : Int), false)).flatMap dJ) (sp := sp) (A := pt g (ax ((po.set f ((w : Int), false)).flatMap dJ ++ sp) 422) :: kH 3 (bB (((vs.zip Ls).map dt).eraseIdx w)) :: bG ps fr :: R) (B := kH 3 (bB (((vs.zip Ls).map dt).eraseIdx w)) :: bG ps fr :: R) h2 h3 (by rw [iM, List.length_set]) hgl
 refine (Ent.cons e).trans ?_
 exact rq hw hv rfl (by simp) hL.len (hL.set hw (hp.trans ((hrow.1.append_right [f]).trans hown)) hh hoth)
 refine oK (pb := pb) fun a2 c2 vs2 Ls2 hv2 hL2 => ?_
 refine ah (aa rfl (ac rfl) (aa rfl (aF rfl) ?_))
 refine aa rfl (al rfl ib rfl iA rfl (by first | exact Nat.zero_add _ | rfl)) ?_
 refine aa rfl (ao kg rfl (aA rfl)) ?_
 refine aa rfl (ac rfl) (am rfl (bn call339 rfl (Aj W0 _ ps fr f hff)) ?_)
 rintro _ B_ ⟨rfl, hB_⟩
 obtain rfl := hB_.symm
 refine aa rfl (ai rfl) (ag (ab (av (au (.inl rfl) (.cons (ak rfl) .nil) ?_))))
 exact ⟨_, ⟨rfl, rfl⟩, lK rfl hv2 hL2 (by simp) rfl⟩
theorem An (W0 : World) (R : List HP) (pb ps : Nat) (po : Po) (fr : List bZ) (f w : Nat) (hf : f < po.length) (hff : f < fr.length) (hw : w < 16) (hP : PoOk po) (ha : d7 po f = (-1, false)) :
    aC Tryz.prog W0 123 [.pointer (some ⟨pb, 0, none⟩), .int .i64 f, .int .i64 w] (da pb (ps, po) :: bG ps fr :: R)
      (fun v B => v = .int .i64 0 ∧ B = da pb (ps, po.set f ((w : Int), false)) :: bG ps (fr.set f bE) :: R) := by
 have hi : dy po.length f = true := by simp only [dy, decide_eq_true_eq]; omega
 have hw' : jE w = true := by simp only [jE, decide_eq_true_eq]; omega
 have h0 : po.set f (-1, false) = po := by
  have : d7 po f = po[f] := by simp [d7, List.getD, hf]
  rw [← ha, this]; exact List.set_getElem_self _
 refine aG func123 ntmps123 rfl rfl ?_
 refine ae (ah (aa rfl (ai rfl) (ag (ab (ae (aW (ae (ah (aa rfl (ac rfl) ?_)))))))))
 refine am rfl (bn t6 rfl (oO W0 _ pb ps po (by omega))) ?_
 rintro _ B_ ⟨rfl, hB_⟩
 obtain rfl := hB_.symm
 refine aa rfl (ai rfl) (ag (ab ?_))
 refine aw rfl ?_ ?_
 intro c1
 exact absurd c1 (by decide)
 intro c1
 refine ae (ae (ah (aa rfl (ac rfl) (aa rfl (ac rfl) (am rfl (bn call258 rfl (ve W0 _ pb ps po f)) ?_)))))
 rintro _ B_ ⟨rfl, hB_⟩
 obtain rfl := hB_.symm
 refine aa rfl (bM rfl) (aa rfl (ai rfl) (ag (ab ?_)))
 refine aw rfl ?_ ?_
 intro c3
 exact absurd c3 (by simp [hi])
 intro c3
 refine ah (aa rfl (ac rfl) (am rfl (aU xF rfl (ry W0 _ w)) ?_))
 rintro _ B_ ⟨rfl, hB_⟩
 obtain rfl := hB_.symm
 refine aa rfl (bM rfl) (aa rfl (ai rfl) (ag (ab ?_)))
 refine aw rfl ?_ ?_
 intro c4
 exact absurd c4 (by simp [hw'])
 intro c4
 refine ae ?_
 refine oK (pb := pb) fun a c vs Ls hv hL => ?_
 refine ed (r := osl 422 2) (b := .slice a po.length c) (gN (fun h1 h2 => by have := congrArg List.length h2; rw [iM] at this; simp at this; omega) fun g n cap sp h1 h2 h3 h4 h5 => ?_)
 cases h1
 refine ah (aa rfl (ac rfl) (aa rfl (aF rfl) ?_))
 refine aa rfl (al rfl ib rfl jq rfl (by first | exact Nat.zero_add _ | rfl)) ?_
 refine aa rfl (ao l5 rfl (aA rfl)) ?_
 refine aa rfl (ac rfl) ?_
 refine aa rfl (ce kf nI rfl rfl rfl hf (by first | exact Nat.zero_add _ | rfl)) ?_
 refine aa rfl (al rfl nH rfl az rfl (by first | exact Nat.zero_add _ | rfl)) ?_
 refine aa rfl (ao aQ rfl (aA ((v7 po sp f 0 hf (by decide)).trans (by rw [ha]; rfl)))) ?_
 refine aa rfl (bI rfl rfl) (aa rfl (ai rfl) (ag (ab ?_)))
 refine aw rfl ?_ ?_
 intro c6
 exact absurd c6 (by decide)
 intro c6
 refine aB (bH (ab (ae (ah (aa rfl (ac rfl) (aa rfl (aF rfl) ?_))))))
 refine aa rfl (al rfl ib rfl jq rfl (by first | exact Nat.zero_add _ | rfl)) ?_
 refine aa rfl (ao l5 rfl (aA rfl)) ?_
 refine aa rfl (ac rfl) (aa rfl (ac rfl) ?_)
 refine aa rfl (ce kf nI rfl rfl rfl hf (by first | exact Nat.zero_add _ | rfl)) ?_
 refine aa rfl (al rfl nH rfl az rfl (by first | exact Nat.zero_add _ | rfl)) ?_
 refine bD (cm az rfl rfl rfl (by rw [List.length_append, iM]; omega) (A5 po sp f (w : Int) hf)) ?_
 rintro _ _ rfl
 refine ag (ab (ae ?_))
 rw [ha]
 refine f9 (B := pt pb (ax (ez ps (.slice (some ⟨g, 0, none⟩) (po.set f ((w : Int), false)).length c) vs) 420) :: osl 422 2 (.slice (some ⟨g, 0, none⟩) (po.set f ((w : Int), false)).length c) ((po.set f ((w : Int), false)).flatMap dJ) :: kH 2 (bB ((vs.zip Ls).map dt)) :: bG ps fr :: R) ?_ ?_
 rw [List.length_set]
 have e := fa (E := 422) (sz := 2) (g := g) (n := po.length) (cap := c) (xs := (po.set f ((w : Int), false)).flatMap dJ) (sp := sp) (A := pt g (ax ((po.set f ((w : Int), false)).flatMap dJ ++ sp) 422) :: kH 2 (bB ((vs.zip Ls).map dt)) :: bG ps fr :: R) (B := kH 2 (bB ((vs.zip Ls).map dt)) :: bG ps fr :: R) h2 h3 (by rw [iM, List.length_set]) (by rw [List.length_append, iM] at h5 ⊢; rw [List.length_set]; exact h5)
 exact (inferInstance : Ent _ (pt pb (ax (ez ps (.slice (some ⟨g, 0, none⟩) po.length c) vs) 420) :: pt g (ax ((po.set f ((w : Int), false)).flatMap dJ ++ sp) 422) :: kH 2 (bB ((vs.zip Ls).map dt)) :: bG ps fr :: R)).trans (Ent.cons e)
 refine ah (aa rfl (ac rfl) (aa rfl (ac rfl) ?_))
 refine am rfl (zN call260 rfl (Am W0 _ pb ps (po.set f ((w : Int), false)) fr f w false (by rw [List.length_set]; exact hf) hff hw (hP.set hf (by simp) (by simp; omega)) (by rw [jD hf, if_pos rfl]) (some ⟨g, 0, none⟩) c vs Ls hv (by rw [List.set_set, h0]; exact hL))) ?_
 rintro _ B_ ⟨rfl, hB_⟩
 obtain rfl := hB_.symm
 refine aa rfl (ai rfl) (ag (ab (av (au (.inl rfl) (.cons (ak rfl) .nil) ?_))))
 rw [List.set_set]
 exact ⟨_, ⟨rfl, rfl⟩, inferInstance⟩
theorem Ao (W0 : World) (R : List HP) (pb ps : Nat) (po : Po) (w : Nat) (h0 : 0 < po.length) (hw : w < 16) :
    aC Tryz.prog W0 298 [.pointer (some ⟨pb, 0, none⟩), .int .i64 w] (da pb (ps, po) :: R) (fun v B => v = .int .i64 ((bP po w).length : Nat) ∧ B = da pb (ps, po) :: R) := by
 have hw' : jE w = true := by simp only [jE, decide_eq_true_eq]; omega
 refine aG func298 ntmps298 rfl rfl ?_
 refine ae (ah (aa rfl (ai rfl) (ag (ab (ae (ae (ah (aa rfl (ac rfl) (am rfl (bn t6 rfl (oO W0 _ pb ps po h0)) ?_)))))))))
 rintro _ B_ ⟨rfl, hB_⟩
 obtain rfl := hB_.symm
 refine aa rfl (ac rfl) ?_
 refine bC rfl rfl rfl ?_ ?_
 intro g1_3
 exact absurd g1_3 (by decide)
 intro g1_3
 refine aa rfl (ac rfl) (ar rfl rfl (am rfl (aU xF rfl (ry W0 _ w)) ?_))
 rintro _ B_ ⟨rfl, hB_⟩
 obtain rfl := hB_.symm
 refine ar rfl rfl (aa rfl (bM rfl) (aa rfl (aM rfl rfl) (ag (ab ?_))))
 refine aw rfl ?_ ?_
 intro c1
 exact absurd c1 (by simp [hw'])
 intro c1
 refine aB (ab (ae ?_))
 refine oK (pb := pb) fun a c vs Ls hv hL => ?_
 have hrow := hL.row w hw
 refine f9 (B := fi w pb (Ls.getD w [], ez ps (.slice a po.length c) vs) :: kH 3 (bB (((vs.zip Ls).map dt).eraseIdx w)) :: osl 422 2 (.slice a po.length c) (po.flatMap dJ) :: R) ?_ ?_
 exact (Ent.cons (Ent.ofPerm (List.Perm.swap _ _ _))).trans (rp hw hv hL.len)
 refine ah (aa rfl (ac rfl) (aa rfl (ac rfl) (aa rfl (aF rfl) ?_)))
 refine aa rfl (al rfl ib rfl pJ rfl (by first | exact Nat.zero_add _ | rfl)) ?_
 refine aa rfl (dO t1 t2 rfl rfl rfl hw (by first | exact Nat.zero_add _ | rfl)) ?_
 refine am rfl (bn xD rfl (rr W0 _ pb w (Ls.getD w []) (ez ps (.slice a po.length c) vs))) ?_
 rintro _ B_ ⟨rfl, hB_⟩
 obtain rfl := hB_.symm
 refine aa rfl (ai rfl) (ag (ab (av (au (.inl rfl) (.cons (ak rfl) .nil) ?_))))
 rw [hrow.1.length_eq]
 have hLs : Ls.set w (Ls.getD w []) = Ls := by
  rw [show Ls.getD w [] = Ls[w]'(by rw [hL.len]; exact hw) by simp [List.getD, hL.len, hw]]; exact List.set_getElem_self _
 refine ⟨_, ⟨rfl, rfl⟩, ?_⟩
 exact (Ent.cons (Ent.ofPerm (List.Perm.swap _ _ _))).trans (rq hw hv rfl rfl hL.len (by rw [hLs]; exact hL))
theorem Ap (W0 : World) (R : List HP) (pb ps : Nat) (po : Po) (w f : Nat) (l : List Nat) (hw : w < 16) (hP : PoOk po) (he : bP po w = f :: l) :
    aC Tryz.prog W0 202 [.pointer (some ⟨pb, 0, none⟩), .int .i64 w] (da pb (ps, po) :: R)
      (fun v B => v = .tuple #[.int .i64 f, .int .i64 0] ∧ B = da pb (ps, po.set f ((w : Int), true)) :: R) := by
 have hw' : jE w = true := by simp only [jE, decide_eq_true_eq]; omega
 have hf := i3.1 (show f ∈ bP po w by rw [he]; simp)
 refine aG func202 ntmps202 rfl rfl ?_
 refine ae (ah (aa rfl (ai rfl) (aa rfl (ai rfl) (ag (ab (ae (aW (ae (ah (aa rfl (ac rfl) ?_))))))))))
 refine am rfl (bn t6 rfl (oO W0 _ pb ps po (by omega))) ?_
 rintro _ B_ ⟨rfl, hB_⟩
 obtain rfl := hB_.symm
 refine aa rfl (ai rfl) (ag (ab ?_))
 refine aw rfl ?_ ?_
 intro c1
 exact absurd c1 (by decide)
 intro c1
 refine ae (ah (aa rfl (ac rfl) (am rfl (aU xF rfl (ry W0 _ w)) ?_)))
 rintro _ B_ ⟨rfl, hB_⟩
 obtain rfl := hB_.symm
 refine aa rfl (bM rfl) (aa rfl (ai rfl) (ag (ab ?_)))
 refine aw rfl ?_ ?_
 intro c3
 exact absurd c3 (by simp [hw'])
 intro c3
 refine ae ?_
 refine oK (pb := pb) fun a c vs Ls hv hL => ?_
 have hrow := hL.row w hw
 have hrl := hL.rlen hP hw
 refine f9 (B := fi w pb (Ls.getD w [], ez ps (.slice a po.length c) vs) :: kH 3 (bB (((vs.zip Ls).map dt).eraseIdx w)) :: osl 422 2 (.slice a po.length c) (po.flatMap dJ) :: R) ?_ ?_
 exact (Ent.cons (Ent.ofPerm (List.Perm.swap _ _ _))).trans (rp hw hv hL.len)
 refine ah (aa rfl (ac rfl) (aa rfl (ac rfl) (aa rfl (aF rfl) ?_)))
 refine aa rfl (al rfl ib rfl pJ rfl (by first | exact Nat.zero_add _ | rfl)) ?_
 refine aa rfl (dO t1 t2 rfl rfl rfl hw (by first | exact Nat.zero_add _ | rfl)) ?_
 refine am rfl (bn xD rfl (rr W0 _ pb w (Ls.getD w []) (ez ps (.slice a po.length c) vs))) ?_
 rintro _ B_ ⟨rfl, hB_⟩
 obtain rfl := hB_.symm
 refine aa rfl (cu rfl rfl) (aa rfl (ai rfl) (ag (ab ?_)))
 refine aw rfl ?_ ?_
 intro c5
 exact absurd c5 (by rw [hrow.1.length_eq, he, List.length_cons]; omega)
 intro c5
 refine aB (bH (ab (ae (ah (aa rfl (ac rfl) (aa rfl (ac rfl) (aa rfl (aF rfl) ?_)))))))
 refine aa rfl (al rfl ib rfl pJ rfl (by first | exact Nat.zero_add _ | rfl)) ?_
 refine aa rfl (dO t1 t2 rfl rfl rfl hw (by first | exact Nat.zero_add _ | rfl)) ?_
 refine aa rfl (kA Fi (fun _ h => by cases h) rfl) ?_
 refine am rfl (bn call300 rfl (Ag W0 _ pb w (Ls.getD w []) (ez ps (.slice a po.length c) vs) (by omega) (fun e => by rw [e] at hrow; have := hrow.1.length_eq; rw [he] at this; simp at this) hrow.2)) ?_
 rintro _ _ ⟨x, l', rfl, rfl, hp, hh, hm⟩
 have hpp := hp.trans hrow.1
 have hmm : ∀ y ∈ bP po w, x ≤ y := fun y hy => by have := hm y (hrow.1.mem_iff.2 hy); omega
 have hx := qP hpp hmm
 have hr := zH hpp hmm
 rw [he] at hx
 obtain ⟨rfl, _⟩ := List.cons.inj hx
 have hk : LsOk (po.set f ((w : Int), true)) (Ls.set w l') := hL.set hw hr hh fun u hu hne => qN hf.1 (by rw [hf.2]; intro e; have := (Prod.mk.inj e).1; omega) (by intro e; have := (Prod.mk.inj e).2; cases this)
 refine aa rfl (oq eb (fun _ h => by cases h) rfl) ?_
 refine aa rfl (ai rfl) (ag (ab (ae ?_)))
 refine ed (r := osl 422 2) (b := .slice a po.length c) (gN (fun h1 h2 => by have := congrArg List.length h2; rw [iM] at this; simp at this; omega) fun g n cap sp h1 h2 h3 h4 h5 => ?_)
 cases h1
 refine ah (aa rfl (ac rfl) (aa rfl (aF rfl) ?_))
 refine aa rfl (al rfl ib rfl jq rfl (by first | exact Nat.zero_add _ | rfl)) ?_
 refine aa rfl (ao l5 rfl (uN (T := 420) (E := 3) (sz := 1) (f := fP) (o := 2 + w * 1) (by omega) rfl)) ?_
 refine aa rfl (ac rfl) ?_
 refine aa rfl (ce kf nI rfl rfl rfl hf.1 (by first | exact Nat.zero_add _ | rfl)) ?_
 refine aa rfl (al rfl nH rfl cB rfl (by first | exact Nat.zero_add _ | rfl)) ?_
 refine bD (cm cB rfl rfl rfl (by rw [List.length_append, iM]; omega) (v8 po sp f true hf.1)) ?_
 rintro _ _ rfl
 refine ag (ab (ae (ah (aa rfl (ac rfl) (aa rfl (ai rfl) (aa rfl (ai rfl) (ag (ab (av (au (.inl rfl) (.cons (ak rfl) (.cons (ak rfl) .nil)) ?_))))))))))
 rw [hf.2]
 refine ⟨_, ⟨rfl, rfl⟩, ?_⟩
 have e := fa (E := 422) (sz := 2) (g := g) (n := po.length) (cap := c) (xs := (po.set f ((w : Int), true)).flatMap dJ) (sp := sp) (A := pt g (ax ((po.set f ((w : Int), true)).flatMap dJ ++ sp) 422) :: kH 3 (bB (((vs.zip Ls).map dt).eraseIdx w)) :: R) (B := kH 3 (bB (((vs.zip Ls).map dt).eraseIdx w)) :: R) h2 h3 (by rw [iM, List.length_set]) (by rw [List.length_append, iM] at h5 ⊢; rw [List.length_set]; exact h5)
 exact (inferInstance : Ent _ (fi w pb (l', ez ps (.slice (some ⟨g, 0, none⟩) po.length c) vs) :: pt g (ax ((po.set f ((w : Int), true)).flatMap dJ ++ sp) 422) :: kH 3 (bB (((vs.zip Ls).map dt).eraseIdx w)) :: R)).trans ((Ent.cons e).trans (rq hw hv rfl (by simp) hL.len hk))
def wV (w : Nat) : Value := .int .u32 (w : Int)
def oP (l : List Nat) (i : Nat) : Nat := gZ ((l.drop (4 * i)).take 4)
structure Dsc where
  addr : Nat
  len : Nat
  flags : Nat
  next : Nat
structure Dsc.ok (d : Dsc) : Prop where
  addr : d.addr < 4294967296
  len : d.len < 4294967296
  flags : d.flags < 4294967296
  next : d.next < 4294967296
def Aq (l : List Nat) : Dsc := ⟨oP l 0, oP l 1, oP l 2, oP l 3⟩
def zD : Dsc := ⟨0, 0, 0, 0⟩
def vg (d : Dsc) (n : Nat) : Int := if 4 ≤ d.flags then 3 else if 64 < d.len then 4 else if d.flags % 2 = 1 ∧ n ≤ d.next then 1 else 0
structure Rg3 where
  desc : Nat
  avail : Nat
  used : Nat
  n : Int
structure Rg3.ok (r : Rg3) : Prop where
  desc : r.desc < 4294967296
  avail : r.avail < 4294967296
  used : r.used < 4294967296
def dS (x : Int × Int × Int) : List Value := [.int .i64 x.1, .int .i64 x.2.1, .int .i64 x.2.2]
structure WF (W0 : World) (fn : FuncId) (cs : List Value) (n : Nat) (C : Nat → HP) (w : Nat → Bool) : Prop where
  call : ∀ args u, (callFunc fn args).run Tryz.prog u = .ok (.enter fn args) u
  spec : ∀ i, i < n → ∀ R, aC Tryz.prog W0 fn ([] ++ [.int .i64 (i : Int)] ++ cs) (kH 0 (C i) :: R) (fun v B => v = .bool (w i) ∧ B = kH 0 (C (i + 1)) :: R)
def gQ (w : Nat → Bool) (n : Nat) : Bool := (List.range n).any w
theorem lM {w : Nat → Bool} {n i : Nat} (hi : i < n) (h : w i = true) : gQ w n = true := List.any_eq_true.2 ⟨i, List.mem_range.2 hi, h⟩
theorem mZ {w : Nat → Bool} {n : Nat} (h : ∀ i, i < n → w i = false) : gQ w n = false := by
 rw [← Bool.not_eq_true]; intro q
 obtain ⟨i, hi, hw⟩ := List.any_eq_true.1 q
 rw [h i (List.mem_range.1 hi)] at hw; cases hw
def jl (w : Nat → Bool) (n : Nat) : Option Nat := (List.range n).find? w
theorem Ar (w : Nat → Bool) (n : Nat) : (jl w n).isSome = gQ w n := by
 rw [Bool.eq_iff_iff, jl, List.find?_isSome, gQ, List.any_eq_true]
theorem vh {w : Nat → Bool} {n i : Nat} (hi : i < n) (h : w i = true) (hj : ∀ j, j < i → w j = false) : jl w n = some i := by
 rw [jl, List.find?_eq_some_iff_getElem]
 exact ⟨h, i, by simpa using hi, by simp, fun j h2 => by simp [hj j h2]⟩
theorem vj {w : Nat → Bool} {n : Nat} (h : ∀ i, i < n → w i = false) : jl w n = none := by
 rw [jl, List.find?_eq_none]
 intro i hi; rw [h i (List.mem_range.1 hi)]; decide
theorem As (W0 : World) (R : List HP) (fn : FuncId) (cs : List Value) (n : Nat) (C : Nat → HP) (w : Nat → Bool) (hw : WF W0 fn cs n C w) (hn : n ≤ 1000) :
    aC Tryz.prog W0 127 [.int .i64 (n : Int), .func (.func fn) #[] cs.toArray] (kH 0 (C 0) :: R) (fun v B => v = .tuple #[.int .i64 (((jl w n).getD 0 : Nat) : Int), .bool (jl w n).isSome] ∧ B = R) := by
 refine aG func127 ntmps127 rfl rfl ?_
 refine ae (ah (aa rfl (ai rfl) (aa rfl (ai rfl) (ag (ab (ae (ae (ah (aa rfl (ac rfl) (aa rfl (ac rfl) (ag (ab (aW ?_)))))))))))))
 refine cT (fun i : Nat => i ≤ n ∧ ∀ j, j < i → w j = false) (fun i => [(1, .func (.func fn) #[] cs.toArray), (7, .int .i64 (n : Int)), (8, .int .i64 (i : Int))]) (fun i => kH 0 (C i) :: R) (fun i => n - i) 0 ?_ ?_ ?_ ?_
 exact ⟨Nat.zero_le _, fun j hj => absurd hj (Nat.not_lt_zero _)⟩
 · repeat (first | exact aX | refine aV rfl ?_)
 exact inferInstance
 intro i ⟨hi, hj⟩
 refine ae (ah (aa rfl (b0 rfl rfl) (ag (ab (ae ?_)))))
 refine aw rfl ?_ ?_
 intro c2
 refine aB (ab (ae (aW (ae (ah (aa rfl (ac rfl) (aa rfl (ai rfl) (ag (ab (ae ?_))))))))))
 have hi1 : i < n := by omega
 refine ah (aa rfl (ac rfl) (aa rfl (ac rfl) (am rfl (mF (us := []) (cs := cs) rfl hw.call rfl (hw.spec i hi1 _)) ?_)))
 rintro _ B_ ⟨rfl, hB_⟩
 obtain rfl := hB_.symm
 refine ag (ab ?_)
 refine aw rfl ?_ ?_
 intro c4
 refine ae (ah (aa rfl (ac rfl) (aa rfl (ai rfl) (aa rfl (ai rfl) (ag (ab (av (bj (aE (aE (bj (aE (au (.inl rfl) (.cons (ak rfl) (.cons (ak rfl) .nil)) ?_)))))))))))))
 rw [vh hi1 c4 hj]
 exact ⟨_, ⟨rfl, rfl⟩, inferInstance⟩
 intro c4
 refine aB (bH (ab (ah ?_)))
 refine aa rfl (bF rfl rfl (by first | exact aZ (by omega) | rfl)) ?_
 refine aa rfl (ac rfl) (ag (ab ?_))
 refine cG (i + 1) ?_ ?_ ?_ ?_
 refine ⟨by omega, fun j h => ?_⟩
 rcases Nat.lt_or_ge j i with q | q
 exact hj j q
 rw [show j = i by omega]; simpa using c4
 omega
 · repeat (first | exact aX | refine aV rfl ?_)
 exact inferInstance
 intro c2
 refine cj (bi (bi (co (ab (ae (ah (aa rfl (ai rfl) (aa rfl (ai rfl) (ag (ab (av (au (.inl rfl) (.cons (ak rfl) (.cons (ak rfl) .nil)) ?_))))))))))))
 obtain rfl : i = n := by omega
 rw [vj hj]
 exact ⟨_, ⟨rfl, rfl⟩, inferInstance⟩
theorem vk (W0 : World) (R : List HP) (fn : FuncId) (cs : List Value) (n : Nat) (C : Nat → HP) (w : Nat → Bool) (hw : WF W0 fn cs n C w) (hn : n ≤ 1000) :
    aC Tryz.prog W0 127 [.int .i64 (n : Int), .func (.func fn) #[] cs.toArray] (kH 0 (C 0) :: R) (fun v B => ∃ r, v = .tuple #[.int .i64 r, .bool (gQ w n)] ∧ B = R) :=
  ji (As W0 R fn cs n C w hw hn) fun v B hB => by
 obtain ⟨rfl, rfl⟩ := hB
 rw [Ar]
 exact ⟨_, ⟨_, rfl, rfl⟩, ent_refl⟩
def dK (l cats : Int) : Bool := decide (0 ≤ cats ∧ cats ≤ 8) && dG l && decide (lp .i64 l cats = 0)
theorem rz (l cats : Int) : aC Tryz.prog W0 164 [.int .i64 l, .int .i64 cats] R (fun v B => v = .bool (dK l cats) ∧ B = R) := by
 refine aG func164 ntmps164 rfl rfl ?_
 refine ae (ah (aa rfl (ai rfl) (ag (ab (ae (aW (ae (ae (ah (aa rfl (ac rfl) (aa rfl (b0 rfl rfl) (aa rfl (ai rfl) (ag (ab ?_))))))))))))))
 refine aw rfl ?_ ?_
 intro c1
 refine aB (ab (cg rfl (ae (ah (aa rfl (ai rfl) (ag (ab (av (bj (aE (au (.inl rfl) (.cons (ak rfl) .nil) ?_)))))))))))
 have hv : dK l cats = false := by
  rw [← Bool.not_eq_true, dK]; intro q
  simp only [Bool.and_eq_true, decide_eq_true_iff] at q
  first
    | omega
    | (have := q.1.2; simp_all)
 rw [hv]; exact ⟨_, ⟨rfl, rfl⟩, inferInstance⟩
 intro c1
 refine ae (ah (aa rfl (ac rfl) (aa rfl (cy rfl rfl) (aa rfl (ai rfl) (ag (ab ?_))))))
 refine aw rfl ?_ ?_
 intro c2
 refine aB (ab (cg rfl (ae (ah (aa rfl (ai rfl) (ag (ab (av (bj (aE (au (.inl rfl) (.cons (ak rfl) .nil) ?_)))))))))))
 have hv : dK l cats = false := by
  rw [← Bool.not_eq_true, dK]; intro q
  simp only [Bool.and_eq_true, decide_eq_true_iff] at q
  first
    | omega
    | (have := q.1.2; simp_all)
 rw [hv]; exact ⟨_, ⟨rfl, rfl⟩, inferInstance⟩
 intro c2
 refine ah (aa rfl (ac rfl) (am rfl (aU sX rfl (oF l)) ?_))
 rintro _ B_ ⟨rfl, hB_⟩
 obtain rfl := hB_.symm
 refine aa rfl (bM rfl) (aa rfl (ai rfl) (ag (ab ?_)))
 refine aw rfl ?_ ?_
 intro c3
 refine ae (ah (aa rfl (ai rfl) (ag (ab (av (bj (aE (au (.inl rfl) (.cons (ak rfl) .nil) ?_))))))))
 have hv : dK l cats = false := by
  rw [← Bool.not_eq_true, dK]; intro q
  simp only [Bool.and_eq_true, decide_eq_true_iff] at q
  first
    | omega
    | (have := q.1.2; simp_all)
 rw [hv]; exact ⟨_, ⟨rfl, rfl⟩, inferInstance⟩
 intro c3
 refine aB (bH (ab (ae (ah (aa rfl (ac rfl) (aa rfl (ac rfl) ?_))))))
 refine aa rfl (o9 rfl rfl (by omega) rfl) ?_
 refine aa rfl (cu rfl rfl) (aa rfl (ai rfl) (ag (ab (av (au (.inl rfl) (.cons (ak rfl) .nil) ?_)))))
 refine ⟨_, ⟨?_, rfl⟩, inferInstance⟩
 refine congrArg Value.bool ?_
 rw [Bool.eq_iff_iff, dK]
 simp only [Bool.and_eq_true, decide_eq_true_iff]
 constructor
 intro q
 refine ⟨⟨by omega, by simp_all⟩, by simpa using q⟩
 intro q
 simpa using q.2
structure Cfg where
  cats : Int
  ga : Option Addr
  gc : Nat
  gl : List (Int × Int × Int)
  ra : Option Addr
  rc : Nat
  rl : List (Int × Int × Int)
  pa : Option Addr
  pc : Nat
  pl : List (Int × Int)
  na : Option Addr
  nc : Nat
  nl : List (Int × Int)
  sa : Option Addr
  sc : Nat
  sl : List (Int × Int)
  gate : Int
  quota : Int
@[reducible] def bU (c : Cfg) : List Value := [.int .i64 c.cats, .slice c.ga c.gl.length c.gc, .slice c.ra c.rl.length c.rc, .slice c.pa c.pl.length c.pc, .slice c.na c.nl.length c.nc, .slice c.sa c.sl.length c.sc, .int .i64 c.gate, .int .i64 c.quota]
def j4 (cats : Int) (g : Int × Int × Int) : Bool := !(dK g.1 cats && decide (1 ≤ g.2.1 ∧ g.2.1 ≤ 8 ∧ 0 ≤ g.2.2 ∧ g.2.2 ≤ 8 - g.2.1))
theorem n0 {cats : Int} {g : Int × Int × Int} : j4 cats g = false ↔ dK g.1 cats = true ∧ 1 ≤ g.2.1 ∧ g.2.1 ≤ 8 ∧ 0 ≤ g.2.2 ∧ g.2.2 ≤ 8 - g.2.1 := by
 rw [j4]; simp only [Bool.not_eq_false', Bool.and_eq_true, decide_eq_true_iff]
theorem jV {cats : Int} {g : Int × Int × Int} (h : ¬ (dK g.1 cats = true ∧ 1 ≤ g.2.1 ∧ g.2.1 ≤ 8 ∧ 0 ≤ g.2.2 ∧ g.2.2 ≤ 8 - g.2.1)) : j4 cats g = true := by
 rw [← Bool.not_eq_false, n0]; exact h
theorem Au (W0 : World) (b1 : Nat) (c : Cfg) (hs : ∀ A, cF (bK W0 A) c.ga 3 dS c.gl) :
    WF W0 246 [.pointer (some ⟨b1, 0, none⟩)] c.gl.length (fun _ => bB [pt b1 (ax (bU c) 29)]) (fun i => j4 c.cats (c.gl.getD i (0, 0, 0))) := ⟨call246, fun i hi R => by
 refine lJ ?_
 simp only [List.cons_append, List.nil_append]
 obtain ⟨cats, ga, gc, gl, ra, rc, rl, pa, pc, pl, na, nc, nl, sa, sc, sl, gate, quota⟩ := c
 dsimp only at hs hi ⊢
 obtain ⟨g, o, rfl, hc⟩ := (hs (pt b1 (ax (bU ⟨cats, ga, gc, gl, ra, rc, rl, pa, pc, pl, na, nc, nl, sa, sc, sl, gate, quota⟩) 29) :: R)).at_ hi
 obtain ⟨x, hx⟩ : ∃ x, gl[i] = x := ⟨_, rfl⟩
 rw [show gl.getD i (0, 0, 0) = x by simp [List.getD, hi, hx]]
 rw [hx] at hc
 refine aG func246 ntmps246 rfl rfl ?_
 refine ae (ah (aa rfl (ai rfl) (ag (ab (ae (ah ?_))))))
 refine aa rfl (al rfl bw rfl dD rfl (by first | exact Nat.zero_add _ | rfl)) ?_
 refine aa rfl (ao dN rfl (aA rfl)) ?_
 refine aa rfl (ac rfl) ?_
 refine aa rfl (ce dq eH rfl rfl rfl hi (by first | exact Nat.zero_add _ | rfl)) ?_
 refine aa rfl (cV t7 eH rfl hc.weak rfl) ?_
 refine am rfl (cM mc) ?_
 rintro _ _ ⟨bx, rfl, rfl⟩
 refine bD (cD eH rfl rfl rfl rfl rfl) ?_
 rintro _ _ rfl
 refine ag (ab (ae (aW (ae (ah ?_)))))
 refine aa rfl (al rfl dV rfl az rfl (by first | exact Nat.zero_add _ | rfl)) ?_
 refine aa rfl (ao aQ rfl (aA rfl)) ?_
 refine aa rfl (al rfl bw rfl az rfl (by first | exact Nat.zero_add _ | rfl)) ?_
 refine aa rfl (ao aQ rfl (aA rfl)) ?_
 refine am rfl (aU xG rfl (rz x.1 cats)) ?_
 rintro _ B_ ⟨rfl, hB_⟩
 obtain rfl := hB_.symm
 refine aa rfl (bM rfl) (aa rfl (ai rfl) (ag (ab ?_)))
 refine aw rfl ?_ ?_
 intro c2
 refine ae (ah (aa rfl (ai rfl) (ag (ab (av (bj (aE (au (.inl rfl) (.cons (ak rfl) .nil) ?_))))))))
 rw [jV (fun q => by simp_all)]
 exact ⟨_, ⟨rfl, rfl⟩, inferInstance⟩
 intro c2
 refine ae (ae (ah ?_))
 refine aa rfl (al rfl dV rfl az rfl (by first | exact Nat.zero_add _ | rfl)) ?_
 refine aa rfl (ao aQ rfl (aA rfl)) ?_
 refine aa rfl (b0 rfl rfl) (aa rfl (ai rfl) (ag (ab ?_)))
 refine aw rfl ?_ ?_
 intro c4
 refine aB (ab (cg rfl (ae (ah (aa rfl (ai rfl) (ag (ab (av (bj (aE (au (.inl rfl) (.cons (ak rfl) .nil) ?_)))))))))))
 rw [jV (fun q => by omega)]
 exact ⟨_, ⟨rfl, rfl⟩, inferInstance⟩
 intro c4
 refine ah ?_
 refine aa rfl (al rfl dV rfl az rfl (by first | exact Nat.zero_add _ | rfl)) ?_
 refine aa rfl (ao aQ rfl (aA rfl)) ?_
 refine aa rfl (cy rfl rfl) (aa rfl (ai rfl) (ag (ab ?_)))
 refine aw rfl ?_ ?_
 intro c5
 refine ae (ah (aa rfl (ai rfl) (ag (ab (av (bj (aE (au (.inl rfl) (.cons (ak rfl) .nil) ?_))))))))
 rw [jV (fun q => by omega)]
 exact ⟨_, ⟨rfl, rfl⟩, inferInstance⟩
 intro c5
 refine aB (bH (ab (ae (ah ?_))))
 refine aa rfl (al rfl dV rfl az rfl (by first | exact Nat.zero_add _ | rfl)) ?_
 refine aa rfl (ao aQ rfl (aA rfl)) ?_
 refine aa rfl (b0 rfl rfl) (aa rfl (ac rfl) ?_)
 refine bC rfl rfl rfl ?_ ?_
 intro g7_4
 refine ap rfl rfl rfl rfl (ap rfl rfl rfl rfl (ap rfl rfl rfl rfl (ap rfl rfl rfl rfl (ap rfl rfl rfl rfl (aa rfl (aY rfl rfl) (aa rfl (ai rfl) (ag (ab (av (au (.inl rfl) (.cons (ak rfl) .nil) ?_))))))))))
 first
   | (rw [jV (fun q => by omega)]; exact ⟨_, ⟨rfl, rfl⟩, inferInstance⟩)
   | (refine ⟨_, ⟨?_, rfl⟩, inferInstance⟩
      refine congrArg Value.bool ?_
      rw [Bool.eq_iff_iff, decide_eq_true_iff]
      constructor
      · intro q; exact jV (fun q2 => by omega)
      intro q
      apply Decidable.byContradiction
      intro q2
      rw [n0.2 ⟨by simp_all, by omega, by omega, by omega, by omega⟩] at q; cases q)
 intro g7_4
 refine aa rfl (al rfl dV rfl az rfl (by first | exact Nat.zero_add _ | rfl)) ?_
 refine ar rfl rfl (aa rfl (ao aQ rfl (aA rfl)) ?_)
 refine ar rfl rfl ?_
 refine aa rfl (al rfl dV rfl az rfl (by first | exact Nat.zero_add _ | rfl)) ?_
 refine ar rfl rfl (aa rfl (ao aQ rfl (aA rfl)) ?_)
 refine ar rfl rfl ?_
 refine aa rfl (dX rfl rfl (aZ (by omega))) ?_
 refine ar rfl rfl (aa rfl (cy rfl rfl) (aa rfl (aM rfl rfl) (aa rfl (ai rfl) (ag (ab (av (au (.inl rfl) (.cons (ak rfl) .nil) ?_)))))))
 first
   | (rw [jV (fun q => by omega)]; exact ⟨_, ⟨rfl, rfl⟩, inferInstance⟩)
   | (refine ⟨_, ⟨?_, rfl⟩, inferInstance⟩
      refine congrArg Value.bool ?_
      rw [Bool.eq_iff_iff, decide_eq_true_iff]
      constructor
      · intro q; exact jV (fun q2 => by omega)
      · intro q
        apply Decidable.byContradiction
        intro q2
        rw [n0.2 ⟨by simp_all, by omega, by omega, by omega, by omega⟩] at q; cases q)
 ⟩
theorem oQ (W0 : World) (R : List HP) (fn : FuncId) (cs : List Value) (n b : Nat) (o : Obj) (w : Nat → Bool) (hw : WF W0 fn cs n (fun _ => bB [pt b o]) w) (hn : n ≤ 1000) :
    aC Tryz.prog W0 127 [.int .i64 (n : Int), .func (.func fn) #[] cs.toArray] (pt b o :: R) (fun v B => ∃ r, v = .tuple #[.int .i64 r, .bool (gQ w n)] ∧ B = R) :=
  jk (B := kH 0 (bB [pt b o]) :: R) (fY (A := [pt b o])) (vk W0 R fn cs n (fun _ => bB [pt b o]) w hw hn)
def fw (c : Cfg) : Bool := decide (c.gl.length < 1 ∨ 4 < c.gl.length) || gQ (fun i => j4 c.cats (c.gl.getD i (0, 0, 0))) c.gl.length
theorem Av (W0 : World) (R : List HP) (c : Cfg) (hs : ∀ A, cF (bK W0 A) c.ga 3 dS c.gl) :
    aC Tryz.prog W0 113 [.agg (bU c).toArray] R (fun v B => ∃ r, v = .tuple #[.int .i64 r, .bool (fw c)] ∧ B = R) := by
 obtain ⟨w, hw⟩ : ∃ w, (fun i => j4 c.cats (c.gl.getD i (0, 0, 0))) = w := ⟨_, rfl⟩
 have hG : fw c = (decide (c.gl.length < 1 ∨ 4 < c.gl.length) || gQ w c.gl.length) := by rw [fw, hw]
 refine aG func113 ntmps113 rfl rfl ?_
 refine ae (ah (am rfl (bJ rfl) ?_))
 rintro _ _ ⟨b1, rfl, rfl⟩
 refine aa rfl (ai rfl) (aa rfl (ai rfl) (ag (ab (ae (ae (ah ?_))))))
 refine aa rfl (al rfl bw rfl dD rfl (by first | exact Nat.zero_add _ | rfl)) ?_
 refine aa rfl (ao dN rfl (aA rfl)) ?_
 refine aa rfl (bu dq rfl) (aa rfl (b0 rfl rfl) (aa rfl (ac rfl) ?_))
 refine bC rfl rfl rfl ?_ ?_
 intro g1_5
 refine ap rfl rfl rfl rfl (ap rfl rfl rfl rfl (ap rfl rfl rfl rfl (aa rfl (aY rfl rfl) (ag (ab (cg rfl (ae (ah (aa rfl (ai rfl) (aa rfl (ai rfl) (ag (ab (av (aE (au (.inl rfl) (.cons (ak rfl) (.cons (ak rfl) .nil)) ?_)))))))))))))))
 rw [hG, decide_eq_true (by omega), Bool.true_or]
 exact ⟨_, ⟨0, rfl, rfl⟩, inferInstance⟩
 intro g1_5
 refine aa rfl (al rfl bw rfl dD rfl (by first | exact Nat.zero_add _ | rfl)) ?_
 refine ar rfl rfl (aa rfl (ao dN rfl (aA rfl)) ?_)
 refine ar rfl rfl (aa rfl (bu dq rfl) (ar rfl rfl (aa rfl (cy rfl rfl) (aa rfl (aM rfl rfl) (ag (ab ?_))))))
 refine aw rfl ?_ ?_
 intro c1
 refine ae (ah (aa rfl (ai rfl) (aa rfl (ai rfl) (ag (ab (av (aE (au (.inl rfl) (.cons (ak rfl) (.cons (ak rfl) .nil)) ?_))))))))
 rw [hG, decide_eq_true (by omega), Bool.true_or]
 exact ⟨_, ⟨0, rfl, rfl⟩, inferInstance⟩
 intro c1
 refine aB (ab (ae (ah ?_)))
 refine aa rfl (al rfl bw rfl dD rfl (by first | exact Nat.zero_add _ | rfl)) ?_
 refine aa rfl (ao dN rfl (aA rfl)) ?_
 refine aa rfl (bu dq rfl) (aa rfl (ip rfl rfl) ?_)
 refine am rfl (bn pK rfl (oQ W0 _ 246 [.pointer (some ⟨b1, 0, none⟩)] c.gl.length b1 _ w (hw ▸ Au W0 b1 c hs) (by omega))) ?_
 rintro _ B_ ⟨r, rfl, hB_⟩
 obtain rfl := hB_.symm
 refine aa rfl (aS rfl rfl) (aa rfl (aS rfl rfl) (aa rfl (ai rfl) (aa rfl (ai rfl) (ag (ab (av (au (.inl rfl) (.cons (ak rfl) (.cons (ak rfl) .nil)) ?_)))))))
 rw [hG, decide_eq_false (by omega), Bool.false_or]
 exact ⟨_, ⟨r, rfl, rfl⟩, inferInstance⟩
def e8 (c : Cfg) (i : Int) : Bool := decide (0 ≤ i ∧ i < c.gl.length)
theorem kN (c : Cfg) (i : Int) : aC Tryz.prog W0 251 [.agg (bU c).toArray, .int .i64 i] R (fun v B => v = .bool (e8 c i) ∧ B = R) := by
 refine aG func251 ntmps251 rfl rfl ?_
 refine ae (ah (am rfl (bJ rfl) ?_))
 rintro _ _ ⟨b1, rfl, rfl⟩
 refine aa rfl (ai rfl) (ag (ab (ae (ah (aa rfl (ac rfl) (aa rfl (cK rfl rfl) (aa rfl (ac rfl) ?_)))))))
 refine cJ rfl rfl rfl ?_ ?_
 intro g1_3
 refine aa rfl (ac rfl) (ar rfl rfl ?_)
 refine aa rfl (al rfl bw rfl dD rfl (by first | exact Nat.zero_add _ | rfl)) ?_
 refine ar rfl rfl (aa rfl (ao dN rfl (aA rfl)) ?_)
 refine ar rfl rfl (aa rfl (bu dq rfl) (ar rfl rfl (aa rfl (b0 rfl rfl) (aa rfl (aY rfl rfl) (aa rfl (ai rfl) (ag (ab (av (au (.inl rfl) (.cons (ak rfl) .nil) ?_)))))))))
 refine ⟨_, ⟨?_, rfl⟩, inferInstance⟩
 refine congrArg Value.bool ?_
 rw [Bool.eq_iff_iff, e8, decide_eq_true_iff]
 first
   | (rw [decide_eq_true_iff]; constructor
      · intro q; omega
      · intro q; omega)
   | (constructor
      · intro q; first | omega | (cases q)
      intro q; omega)
 intro g1_3
 refine ap rfl rfl rfl rfl (ap rfl rfl rfl rfl (ap rfl rfl rfl rfl (ap rfl rfl rfl rfl (aa rfl (aM rfl rfl) (aa rfl (ai rfl) (ag (ab (av (au (.inl rfl) (.cons (ak rfl) .nil) ?_)))))))))
 refine ⟨_, ⟨?_, rfl⟩, inferInstance⟩
 refine congrArg Value.bool ?_
 rw [Bool.eq_iff_iff, e8, decide_eq_true_iff]
 first
   | (rw [decide_eq_true_iff]; constructor
      · intro q; omega
      · intro q; omega)
   | (constructor
      · intro q; first | omega | (cases q)
      intro q; omega)
@[reducible] def dj (x : Int × Int) : List Value := [.int .i64 x.1, .int .i64 x.2]
def iO (c : Cfg) (s : Int × Int) : Bool := !(e8 c s.1 && decide (1 ≤ s.2 ∧ s.2 ≤ 32))
theorem Aw (W0 : World) (b1 : Nat) (c : Cfg) (hs : ∀ A, cF (bK W0 A) c.sa 2 dj c.sl) :
    WF W0 255 [.pointer (some ⟨b1, 0, none⟩)] c.sl.length (fun _ => bB [pt b1 (ax (bU c) 29)]) (fun i => iO c (c.sl.getD i (0, 0))) := ⟨call255, fun i hi R => by
 refine lJ ?_
 simp only [List.cons_append, List.nil_append]
 obtain ⟨g, o, hga, hc⟩ := (hs (pt b1 (ax (bU c) 29) :: R)).at_ hi
 obtain ⟨x, hx⟩ : ∃ x, c.sl[i] = x := ⟨_, rfl⟩
 rw [show c.sl.getD i (0, 0) = x by simp [List.getD, hi, hx]]
 rw [hx] at hc
 obtain ⟨w, hw⟩ : ∃ w, e8 c x.1 = w := ⟨_, rfl⟩
 have hW : iO c x = !(w && decide (1 ≤ x.2 ∧ x.2 ≤ 32)) := by rw [iO, hw]
 rw [hW]
 obtain ⟨cats, ga, gc, gl, ra, rc, rl, pa, pc, pl, na, nc, nl, sa, sc, sl, gate, quota⟩ := c
 dsimp only at hs hi hga hc hw ⊢
 subst hga
 refine aG func255 ntmps255 rfl rfl ?_
 refine ae (ah (aa rfl (ai rfl) (ag (ab (ae (ah ?_))))))
 refine aa rfl (al rfl bw rfl jr rfl (by first | exact Nat.zero_add _ | rfl)) ?_
 refine aa rfl (ao kh rfl (aA rfl)) ?_
 refine aa rfl (ac rfl) ?_
 refine aa rfl (ce js md rfl rfl rfl hi (by first | exact Nat.zero_add _ | rfl)) ?_
 refine aa rfl (cV isAgg87 md rfl hc.weak rfl) ?_
 refine am rfl (cM t8) ?_
 rintro _ _ ⟨bx, rfl, rfl⟩
 refine bD (cD md rfl rfl rfl rfl rfl) ?_
 rintro _ _ rfl
 refine ag (ab (ae (ah (aa rfl (cp cn bN rfl rfl) ?_))))
 refine aa rfl (al rfl l6 rfl az rfl (by first | exact Nat.zero_add _ | rfl)) ?_
 refine aa rfl (ao aQ rfl (aA rfl)) ?_
 refine am rfl (aU me rfl (kN ⟨cats, ga, gc, gl, ra, rc, rl, pa, pc, pl, na, nc, nl, some ⟨g, o, none⟩, sc, sl, gate, quota⟩ x.1)) ?_
 rintro _ B_ ⟨rfl, hB_⟩
 obtain rfl := hB_.symm
 rw [hw]
 refine aa rfl (bM rfl) (aa rfl (ac rfl) ?_)
 refine bC rfl rfl rfl ?_ ?_
 intro g2_6
 refine ap rfl rfl rfl rfl (ap rfl rfl rfl rfl (aa rfl (aY rfl rfl) (aa rfl (ac rfl) (ap rfl rfl rfl rfl (ap rfl rfl rfl rfl (ap rfl rfl rfl rfl (aa rfl (aY rfl rfl) (aa rfl (ai rfl) (ag (ab (av (au (.inl rfl) (.cons (ak rfl) .nil) ?_))))))))))))
 refine ⟨_, ⟨?_, rfl⟩, inferInstance⟩
 refine congrArg Value.bool ?_
 rw [Bool.eq_iff_iff]
 cases w <;> simp_all <;> omega
 intro g2_6
 refine aa rfl (al rfl l6 rfl az rfl (by first | exact Nat.zero_add _ | rfl)) ?_
 refine ar rfl rfl (aa rfl (ao aQ rfl (aA rfl)) ?_)
 refine ar rfl rfl (aa rfl (b0 rfl rfl) (aa rfl (aM rfl rfl) (aa rfl (ac rfl) ?_)))
 refine bC rfl rfl rfl ?_ ?_
 intro g2_11
 refine ap rfl rfl rfl rfl (ap rfl rfl rfl rfl (aa rfl (aY rfl rfl) (aa rfl (ai rfl) (ag (ab (av (au (.inl rfl) (.cons (ak rfl) .nil) ?_)))))))
 refine ⟨_, ⟨?_, rfl⟩, inferInstance⟩
 refine congrArg Value.bool ?_
 rw [Bool.eq_iff_iff]
 cases w <;> simp_all <;> omega
 intro g2_11
 refine aa rfl (al rfl l6 rfl az rfl (by first | exact Nat.zero_add _ | rfl)) ?_
 refine ar rfl rfl (aa rfl (ao aQ rfl (aA rfl)) ?_)
 refine ar rfl rfl (aa rfl (cy rfl rfl) (aa rfl (aM rfl rfl) (aa rfl (ai rfl) (ag (ab (av (au (.inl rfl) (.cons (ak rfl) .nil) ?_)))))))
 refine ⟨_, ⟨?_, rfl⟩, inferInstance⟩
 refine congrArg Value.bool ?_
 rw [Bool.eq_iff_iff]
 cases w <;> simp_all <;> omega
 ⟩
def i5 (c : Cfg) : Bool := decide (c.sl.length < 1 ∨ 8 < c.sl.length) || gQ (fun i => iO c (c.sl.getD i (0, 0))) c.sl.length
theorem Ax (W0 : World) (R : List HP) (c : Cfg) (hs : ∀ A, cF (bK W0 A) c.sa 2 dj c.sl) :
    aC Tryz.prog W0 117 [.agg (bU c).toArray] R (fun v B => ∃ r, v = .tuple #[.int .i64 r, .bool (i5 c)] ∧ B = R) := by
 obtain ⟨w, hw⟩ : ∃ w, (fun i => iO c (c.sl.getD i (0, 0))) = w := ⟨_, rfl⟩
 have hG : i5 c = (decide (c.sl.length < 1 ∨ 8 < c.sl.length) || gQ w c.sl.length) := by rw [i5, hw]
 refine aG func117 ntmps117 rfl rfl ?_
 refine ae (ah (am rfl (bJ rfl) ?_))
 rintro _ _ ⟨b1, rfl, rfl⟩
 refine aa rfl (ai rfl) (aa rfl (ai rfl) (ag (ab (ae (ae (ah ?_))))))
 refine aa rfl (al rfl bw rfl jr rfl (by first | exact Nat.zero_add _ | rfl)) ?_
 refine aa rfl (ao kh rfl (aA rfl)) ?_
 refine aa rfl (bu js rfl) (aa rfl (b0 rfl rfl) (aa rfl (ac rfl) ?_))
 refine bC rfl rfl rfl ?_ ?_
 intro g1_5
 refine ap rfl rfl rfl rfl (ap rfl rfl rfl rfl (ap rfl rfl rfl rfl (aa rfl (aY rfl rfl) (ag (ab (cg rfl (ae (ah (aa rfl (ai rfl) (aa rfl (ai rfl) (ag (ab (av (aE (au (.inl rfl) (.cons (ak rfl) (.cons (ak rfl) .nil)) ?_)))))))))))))))
 rw [hG, decide_eq_true (by omega), Bool.true_or]
 exact ⟨_, ⟨0, rfl, rfl⟩, inferInstance⟩
 intro g1_5
 refine aa rfl (al rfl bw rfl jr rfl (by first | exact Nat.zero_add _ | rfl)) ?_
 refine ar rfl rfl (aa rfl (ao kh rfl (aA rfl)) ?_)
 refine ar rfl rfl (aa rfl (bu js rfl) (ar rfl rfl (aa rfl (cy rfl rfl) (aa rfl (aM rfl rfl) (ag (ab ?_))))))
 refine aw rfl ?_ ?_
 intro c1
 refine ae (ah (aa rfl (ai rfl) (aa rfl (ai rfl) (ag (ab (av (aE (au (.inl rfl) (.cons (ak rfl) (.cons (ak rfl) .nil)) ?_))))))))
 rw [hG, decide_eq_true (by omega), Bool.true_or]
 exact ⟨_, ⟨0, rfl, rfl⟩, inferInstance⟩
 intro c1
 refine aB (ab (ae (ah ?_)))
 refine aa rfl (al rfl bw rfl jr rfl (by first | exact Nat.zero_add _ | rfl)) ?_
 refine aa rfl (ao kh rfl (aA rfl)) ?_
 refine aa rfl (bu js rfl) (aa rfl (ip rfl rfl) ?_)
 refine am rfl (bn pK rfl (oQ W0 _ 255 [.pointer (some ⟨b1, 0, none⟩)] c.sl.length b1 _ w (hw ▸ Aw W0 b1 c hs) (by omega))) ?_
 rintro _ B_ ⟨r, rfl, hB_⟩
 obtain rfl := hB_.symm
 refine aa rfl (aS rfl rfl) (aa rfl (aS rfl rfl) (aa rfl (ai rfl) (aa rfl (ai rfl) (ag (ab (av (au (.inl rfl) (.cons (ak rfl) (.cons (ak rfl) .nil)) ?_)))))))
 rw [hG, decide_eq_false (by omega), Bool.false_or]
 exact ⟨_, ⟨r, rfl, rfl⟩, inferInstance⟩
def gn (c : Cfg) : Bool := if c.gate = -1 then decide (c.quota ≠ 0) else !(e8 c c.gate && decide (0 ≤ c.quota ∧ c.quota ≤ 64))
theorem Ay (c : Cfg) : aC Tryz.prog W0 118 [.agg (bU c).toArray] R (fun v B => v = .bool (gn c) ∧ B = R) := by
 obtain ⟨w, hw⟩ : ∃ w, e8 c c.gate = w := ⟨_, rfl⟩
 have hW : gn c = if c.gate = -1 then decide (c.quota ≠ 0) else !(w && decide (0 ≤ c.quota ∧ c.quota ≤ 64)) := by rw [gn, hw]
 rw [hW]
 refine aG func118 ntmps118 rfl rfl ?_
 refine ae (ah (am rfl (bJ rfl) ?_))
 rintro _ _ ⟨b1, rfl, rfl⟩
 refine aa rfl (ai rfl) (ag (ab (ae (aW (ae (aW (aW (ae (aW (ae (ae (ae (ah ?_)))))))))))))
 refine aa rfl (al rfl bw rfl az rfl (by first | exact Nat.zero_add _ | rfl)) ?_
 refine aa rfl (ao aQ rfl (aA rfl)) ?_
 refine aa rfl (cu rfl rfl) (aa rfl (ai rfl) (ag (ab ?_)))
 refine aw rfl ?_ ?_
 intro c1
 refine cj (bi (bi (co (ab (ae (ae (ah ?_)))))))
 refine aa rfl (al rfl bw rfl az rfl (by first | exact Nat.zero_add _ | rfl)) ?_
 refine aa rfl (ao aQ rfl (aA rfl)) ?_
 refine aa rfl (bI rfl rfl) (aa rfl (ai rfl) (ag (ab (av (aE (bj (bj (aE (bj (aE (au (.inl rfl) (.cons (ak rfl) .nil) ?_)))))))))))
 refine ⟨_, ⟨?_, rfl⟩, inferInstance⟩
 refine congrArg Value.bool ?_
 rw [Bool.eq_iff_iff]
 cases w <;> simp_all <;> omega
 intro c1
 refine aB (ab (ae (ae (ah (aa rfl (cp cn bN rfl rfl) ?_)))))
 refine aa rfl (al rfl bw rfl az rfl (by first | exact Nat.zero_add _ | rfl)) ?_
 refine aa rfl (ao aQ rfl (aA rfl)) ?_
 refine am rfl (aU me rfl (kN c c.gate)) ?_
 rintro _ B_ ⟨rfl, hB_⟩
 obtain rfl := hB_.symm
 rw [hw]
 refine aa rfl (bM rfl) (aa rfl (ai rfl) (ag (ab ?_)))
 refine aw rfl ?_ ?_
 intro c2
 refine cj (bi (bi (eW rfl (bi (co (bH (ab (ae (ae (ah (aa rfl (ai rfl) (ag (ab (av (aE (bj (aE (au (.inl rfl) (.cons (ak rfl) .nil) ?_))))))))))))))))))
 refine ⟨_, ⟨?_, rfl⟩, inferInstance⟩
 refine congrArg Value.bool ?_
 rw [Bool.eq_iff_iff]
 cases w <;> simp_all <;> omega
 intro c2
 refine aB (ab (ae (ae (ah ?_))))
 refine aa rfl (al rfl bw rfl az rfl (by first | exact Nat.zero_add _ | rfl)) ?_
 refine aa rfl (ao aQ rfl (aA rfl)) ?_
 refine aa rfl (b0 rfl rfl) (aa rfl (ai rfl) (ag (ab ?_)))
 refine aw rfl ?_ ?_
 intro c3
 refine aB (ab (cg rfl (cj (bi (eW rfl (bi (eW rfl (co (ab (ae (ae (ah (aa rfl (ai rfl) (ag (ab (av (aE (bj (aE (au (.inl rfl) (.cons (ak rfl) .nil) ?_))))))))))))))))))))
 refine ⟨_, ⟨?_, rfl⟩, inferInstance⟩
 refine congrArg Value.bool ?_
 rw [Bool.eq_iff_iff]
 cases w <;> simp_all <;> omega
 intro c3
 refine ah ?_
 refine aa rfl (al rfl bw rfl az rfl (by first | exact Nat.zero_add _ | rfl)) ?_
 refine aa rfl (ao aQ rfl (aA rfl)) ?_
 refine aa rfl (cy rfl rfl) (aa rfl (ai rfl) (ag (ab ?_)))
 refine aw rfl ?_ ?_
 intro c4
 refine cj (bi (eW rfl (bi (eW rfl (co (ab (ae (ae (ah (aa rfl (ai rfl) (ag (ab (av (aE (bj (aE (au (.inl rfl) (.cons (ak rfl) .nil) ?_)))))))))))))))))
 refine ⟨_, ⟨?_, rfl⟩, inferInstance⟩
 refine congrArg Value.bool ?_
 rw [Bool.eq_iff_iff]
 cases w <;> simp_all <;> omega
 intro c4
 refine aB (ab (cj (eW rfl (bi (eW rfl (eW rfl (bi (co (ab (ae (ah (aa rfl (ai rfl) (ag (ab (av (au (.inl rfl) (.cons (ak rfl) .nil) ?_))))))))))))))))
 refine ⟨_, ⟨?_, rfl⟩, inferInstance⟩
 refine congrArg Value.bool ?_
 rw [Bool.eq_iff_iff]
 cases w <;> simp_all <;> omega
def fy (c : Cfg) (i : Int) : Int := (c.gl.getD i.toNat (0, 0, 0)).1
def gq (c : Cfg) (x : Int × Int) : Bool := !(e8 c x.1 && e8 c x.2 && decide (x.1 ≠ x.2) && iL (fy c x.1) (fy c x.2))
theorem Az (W0 : World) (b1 : Nat) (c : Cfg) (hs : ∀ A, cF (bK W0 A) c.na 2 dj c.nl) (hgs : ∀ A, cF (bK W0 A) c.ga 3 dS c.gl) :
    WF W0 253 [.pointer (some ⟨b1, 0, none⟩)] c.nl.length (fun _ => bB [pt b1 (ax (bU c) 29)]) (fun i => gq c (c.nl.getD i (0, 0))) := ⟨call253, fun i hi R => by
 refine lJ ?_
 simp only [List.cons_append, List.nil_append]
 obtain ⟨g, o, hga, hc⟩ := (hs (pt b1 (ax (bU c) 29) :: R)).at_ hi
 obtain ⟨x, hx⟩ : ∃ x, c.nl[i] = x := ⟨_, rfl⟩
 rw [show c.nl.getD i (0, 0) = x by simp [List.getD, hi, hx]]
 rw [hx] at hc
 obtain ⟨p, q⟩ := x
 obtain ⟨w1, hw1⟩ : ∃ w, e8 c p = w := ⟨_, rfl⟩
 obtain ⟨w2, hw2⟩ : ∃ w, e8 c q = w := ⟨_, rfl⟩
 have hW : gq c (p, q) = !(w1 && w2 && decide (p ≠ q) && iL (fy c p) (fy c q)) := by rw [gq, hw1, hw2]
 by_cases hb : w1 = true ∧ w2 = true
 obtain ⟨rfl, rfl⟩ := hb
 have h1 : 0 ≤ p ∧ p < c.gl.length := of_decide_eq_true hw1
 have h2 : 0 ≤ q ∧ q < c.gl.length := of_decide_eq_true hw2
 obtain ⟨j, rfl⟩ : ∃ j : Nat, p = (j : Int) := ⟨p.toNat, by omega⟩
 obtain ⟨k, rfl⟩ : ∃ k : Nat, q = (k : Int) := ⟨q.toNat, by omega⟩
 have hj : j < c.gl.length := by omega
 have hk : k < c.gl.length := by omega
 obtain ⟨u, hu⟩ : ∃ u, c.gl[j] = u := ⟨_, rfl⟩
 obtain ⟨v, hv⟩ : ∃ v, c.gl[k] = v := ⟨_, rfl⟩
 have hl1 : fy c (j : Int) = u.1 := by rw [fy, Int.toNat_natCast]; simp [List.getD, hj, hu]
 have hl2 : fy c (k : Int) = v.1 := by rw [fy, Int.toNat_natCast]; simp [List.getD, hk, hv]
 rw [hl1, hl2] at hW
 rw [hW]
 obtain ⟨gg, og, hgg, hcj⟩ := (hgs (pt b1 (ax (bU c) 29) :: R)).at_ hj
 obtain ⟨gh, oh, hgh, hck⟩ := (hgs (pt b1 (ax (bU c) 29) :: R)).at_ hk
 rw [hu] at hcj
 rw [hv] at hck
 obtain ⟨cats, ga, gc, gl, ra, rc, rl, pa, pc, pl, na, nc, nl, sa, sc, sl, gate, quota⟩ := c
 dsimp only at hi hga hc hw1 hw2 hj hk hgg hgh hcj hck ⊢
 subst hga
 subst hgg
 obtain ⟨rfl, rfl⟩ : gg = gh ∧ og = oh := by cases hgh; exact ⟨rfl, rfl⟩
 refine aG func253 ntmps253 rfl rfl ?_
 refine ae (ah (aa rfl (ai rfl) (ag (ab (ae (ah ?_))))))
 refine aa rfl (al rfl bw rfl eV rfl (by first | exact Nat.zero_add _ | rfl)) ?_
 refine aa rfl (ao ff rfl (aA rfl)) ?_
 refine aa rfl (ac rfl) ?_
 refine aa rfl (ce eI ei rfl rfl rfl hi (by first | exact Nat.zero_add _ | rfl)) ?_
 refine aa rfl (cV l7 ei rfl hc.weak rfl) ?_
 refine am rfl (cM ic) ?_
 rintro _ _ ⟨bx, rfl, rfl⟩
 refine bD (cD ei rfl rfl rfl rfl rfl) ?_
 rintro _ _ rfl
 refine ag (ab (ae (ae (ah (aa rfl (cp cn bN rfl rfl) ?_)))))
 refine aa rfl (al rfl et rfl az rfl (by first | exact Nat.zero_add _ | rfl)) ?_
 refine aa rfl (ao aQ rfl (aA rfl)) ?_
 refine am rfl (aU me rfl (kN ⟨cats, some ⟨gg, og, none⟩, gc, gl, ra, rc, rl, pa, pc, pl, some ⟨g, o, none⟩, nc, nl, sa, sc, sl, gate, quota⟩ (j : Int))) ?_
 rintro _ B_ ⟨rfl, hB_⟩
 obtain rfl := hB_.symm
 rw [hw1]
 refine aa rfl (bM rfl) (aa rfl (ac rfl) ?_)
 refine bC rfl rfl rfl ?_ ?_
 intro g2_6
 exact absurd rfl g2_6
 intro g2_6
 refine aa rfl (cp cn bN rfl rfl) ?_
 refine ar rfl rfl ?_
 refine aa rfl (al rfl et rfl az rfl (by first | exact Nat.zero_add _ | rfl)) ?_
 refine ar rfl rfl (aa rfl (ao aQ rfl (aA rfl)) ?_)
 refine ar rfl rfl (am rfl (aU me rfl (kN ⟨cats, some ⟨gg, og, none⟩, gc, gl, ra, rc, rl, pa, pc, pl, some ⟨g, o, none⟩, nc, nl, sa, sc, sl, gate, quota⟩ (k : Int))) ?_)
 rintro _ B_ ⟨rfl, hB_⟩
 obtain rfl := hB_.symm
 rw [hw2]
 refine ar rfl rfl (aa rfl (bM rfl) (aa rfl (aM rfl rfl) (aa rfl (ac rfl) ?_)))
 refine bC rfl rfl rfl ?_ ?_
 intro g2_13
 exact absurd rfl g2_13
 intro g2_13
 refine aa rfl (al rfl et rfl az rfl (by first | exact Nat.zero_add _ | rfl)) ?_
 refine ar rfl rfl (aa rfl (ao aQ rfl (aA rfl)) ?_)
 refine ar rfl rfl ?_
 refine aa rfl (al rfl et rfl az rfl (by first | exact Nat.zero_add _ | rfl)) ?_
 refine ar rfl rfl (aa rfl (ao aQ rfl (aA rfl)) ?_)
 refine ar rfl rfl (aa rfl (cu rfl rfl) (aa rfl (aM rfl rfl) (ag (ab ?_))))
 refine aw rfl ?_ ?_
 intro c2
 refine ae (ah (aa rfl (ai rfl) (ag (ab (av (aE (au (.inl rfl) (.cons (ak rfl) .nil) ?_)))))))
 refine ⟨_, ⟨?_, rfl⟩, inferInstance⟩
 refine congrArg Value.bool ?_
 rw [Bool.eq_iff_iff]
 simp_all
 intro c2
 refine aB (ab (ae ?_))
 refine cA [(b1, 0, _), (bx, 0, _), (gg, og + j * 3, dS u), (gg, og + k * 3, dS v)] 17 cz rfl (aK (aK (cW hcj.weak (cW hck.weak aJ)))) (fun hS => ?_)
 refine aj 0 rfl rfl (by kernel_rfl) (by kernel_rfl) (by kernel_rfl) rfl hS (al rfl bw rfl dD rfl (by first | exact Nat.zero_add _ | rfl)) ?_
 refine aj 1 rfl rfl (by kernel_rfl) (by kernel_rfl) (by kernel_rfl) rfl hS (ao dN rfl (by first | exact aD (k := 0) rfl rfl | exact aD (k := 1) rfl rfl | exact aD (k := 2) rfl rfl | exact aD (k := 3) rfl rfl)) ?_
 refine aj 2 rfl rfl (by kernel_rfl) (by kernel_rfl) (by kernel_rfl) rfl hS (al rfl et rfl az rfl (by first | exact Nat.zero_add _ | rfl)) ?_
 refine aj 3 rfl rfl (by kernel_rfl) (by kernel_rfl) (by kernel_rfl) rfl hS (ao aQ rfl (by first | exact aD (k := 0) rfl rfl | exact aD (k := 1) rfl rfl | exact aD (k := 2) rfl rfl | exact aD (k := 3) rfl rfl)) ?_
 refine aj 4 rfl rfl (by kernel_rfl) (by kernel_rfl) (by kernel_rfl) rfl hS (ce dq eH rfl rfl rfl hj (by first | exact Nat.zero_add _ | rfl)) ?_
 refine aj 5 rfl rfl (by kernel_rfl) (by kernel_rfl) (by kernel_rfl) rfl hS (al rfl dV rfl az rfl (by first | exact Nat.zero_add _ | rfl)) ?_
 refine aj 6 rfl rfl (by kernel_rfl) (by kernel_rfl) (by kernel_rfl) rfl hS (ao aQ rfl (fv (k := 2) (j := 0) rfl rfl)) ?_
 refine aj 7 rfl rfl (by kernel_rfl) (by kernel_rfl) (by kernel_rfl) rfl hS (al rfl bw rfl dD rfl (by first | exact Nat.zero_add _ | rfl)) ?_
 refine aj 8 rfl rfl (by kernel_rfl) (by kernel_rfl) (by kernel_rfl) rfl hS (ao dN rfl (by first | exact aD (k := 0) rfl rfl | exact aD (k := 1) rfl rfl | exact aD (k := 2) rfl rfl | exact aD (k := 3) rfl rfl)) ?_
 refine aj 9 rfl rfl (by kernel_rfl) (by kernel_rfl) (by kernel_rfl) rfl hS (al rfl et rfl az rfl (by first | exact Nat.zero_add _ | rfl)) ?_
 refine aj 10 rfl rfl (by kernel_rfl) (by kernel_rfl) (by kernel_rfl) rfl hS (ao aQ rfl (by first | exact aD (k := 0) rfl rfl | exact aD (k := 1) rfl rfl | exact aD (k := 2) rfl rfl | exact aD (k := 3) rfl rfl)) ?_
 refine aj 11 rfl rfl (by kernel_rfl) (by kernel_rfl) (by kernel_rfl) rfl hS (ce dq eH rfl rfl rfl hk (by first | exact Nat.zero_add _ | rfl)) ?_
 refine aj 12 rfl rfl (by kernel_rfl) (by kernel_rfl) (by kernel_rfl) rfl hS (al rfl dV rfl az rfl (by first | exact Nat.zero_add _ | rfl)) ?_
 refine aj 13 rfl rfl (by kernel_rfl) (by kernel_rfl) (by kernel_rfl) rfl hS (ao aQ rfl (fv (k := 3) (j := 0) rfl rfl)) ?_
 refine bA 14 (by kernel_rfl) rfl rfl (aU call254 rfl (zW u.1 v.1)) rfl ?_; clear hS
 rintro _ B_ ⟨rfl, hB_⟩
 obtain rfl := hB_.symm
 refine ⟨(aK (aK (cW hcj.weak (cW hck.weak aJ)))), fun hS => ?_⟩
 refine aj 15 rfl rfl (by kernel_rfl) (by kernel_rfl) (by kernel_rfl) rfl hS (bM rfl) ?_
 refine aj 16 rfl rfl (by kernel_rfl) (by kernel_rfl) (by kernel_rfl) rfl hS (ai rfl) ?_
 refine bL (by kernel_rfl) ?_; clear hS
 refine ab (av (au (.inl rfl) (.cons (ak rfl) .nil) ?_))
 refine ⟨_, ⟨?_, rfl⟩, inferInstance⟩
 refine congrArg Value.bool ?_
 rw [Bool.eq_iff_iff]
 simp_all
 have hW2 : gq c (p, q) = true := by
  rw [hW]; cases w1 <;> cases w2 <;> simp_all
 rw [hW2]
 obtain ⟨cats, ga, gc, gl, ra, rc, rl, pa, pc, pl, na, nc, nl, sa, sc, sl, gate, quota⟩ := c
 dsimp only at hi hga hc hw1 hw2 ⊢
 subst hga
 refine aG func253 ntmps253 rfl rfl ?_
 refine ae (ah (aa rfl (ai rfl) (ag (ab (ae (ah ?_))))))
 refine aa rfl (al rfl bw rfl eV rfl (by first | exact Nat.zero_add _ | rfl)) ?_
 refine aa rfl (ao ff rfl (aA rfl)) ?_
 refine aa rfl (ac rfl) ?_
 refine aa rfl (ce eI ei rfl rfl rfl hi (by first | exact Nat.zero_add _ | rfl)) ?_
 refine aa rfl (cV l7 ei rfl hc.weak rfl) ?_
 refine am rfl (cM ic) ?_
 rintro _ _ ⟨bx, rfl, rfl⟩
 refine bD (cD ei rfl rfl rfl rfl rfl) ?_
 rintro _ _ rfl
 refine ag (ab (ae (ae (ah (aa rfl (cp cn bN rfl rfl) ?_)))))
 refine aa rfl (al rfl et rfl az rfl (by first | exact Nat.zero_add _ | rfl)) ?_
 refine aa rfl (ao aQ rfl (aA rfl)) ?_
 refine am rfl (aU me rfl (kN ⟨cats, ga, gc, gl, ra, rc, rl, pa, pc, pl, some ⟨g, o, none⟩, nc, nl, sa, sc, sl, gate, quota⟩ p)) ?_
 rintro _ B_ ⟨rfl, hB_⟩
 obtain rfl := hB_.symm
 rw [hw1]
 refine aa rfl (bM rfl) (aa rfl (ac rfl) ?_)
 refine bC rfl rfl rfl ?_ ?_
 intro g2_6
 refine ap rfl rfl rfl rfl (ap rfl rfl rfl rfl (ap rfl rfl rfl rfl (ap rfl rfl rfl rfl (aa rfl (aY rfl rfl) (aa rfl (ac rfl) (ap rfl rfl rfl rfl (ap rfl rfl rfl rfl (ap rfl rfl rfl rfl (ap rfl rfl rfl rfl (ap rfl rfl rfl rfl (aa rfl (aY rfl rfl) (ag (ab (cg rfl (ae (ah (aa rfl (ai rfl) (ag (ab (av (aE (au (.inl rfl) (.cons (ak rfl) .nil) ?_))))))))))))))))))))))
 exact ⟨_, ⟨rfl, rfl⟩, inferInstance⟩
 intro g2_6
 refine aa rfl (cp cn bN rfl rfl) ?_
 refine ar rfl rfl ?_
 refine aa rfl (al rfl et rfl az rfl (by first | exact Nat.zero_add _ | rfl)) ?_
 refine ar rfl rfl (aa rfl (ao aQ rfl (aA rfl)) ?_)
 refine ar rfl rfl (am rfl (aU me rfl (kN ⟨cats, ga, gc, gl, ra, rc, rl, pa, pc, pl, some ⟨g, o, none⟩, nc, nl, sa, sc, sl, gate, quota⟩ q)) ?_)
 rintro _ B_ ⟨rfl, hB_⟩
 obtain rfl := hB_.symm
 rw [hw2]
 refine ar rfl rfl (aa rfl (bM rfl) (aa rfl (aM rfl rfl) (aa rfl (ac rfl) ?_)))
 refine bC rfl rfl rfl ?_ ?_
 intro g2_13
 refine ap rfl rfl rfl rfl (ap rfl rfl rfl rfl (ap rfl rfl rfl rfl (ap rfl rfl rfl rfl (aa rfl (aY rfl rfl) (ag (ab (cg rfl (ae (ah (aa rfl (ai rfl) (ag (ab (av (aE (au (.inl rfl) (.cons (ak rfl) .nil) ?_)))))))))))))))
 exact ⟨_, ⟨rfl, rfl⟩, inferInstance⟩
 intro g2_13
 exfalso; cases w1 <;> cases w2 <;> simp_all
 ⟩
def f3 (c : Cfg) : Bool := decide (4 < c.nl.length) || gQ (fun i => gq c (c.nl.getD i (0, 0))) c.nl.length
theorem AA (W0 : World) (R : List HP) (c : Cfg) (hs : ∀ A, cF (bK W0 A) c.na 2 dj c.nl) (hgs : ∀ A, cF (bK W0 A) c.ga 3 dS c.gl) :
    aC Tryz.prog W0 116 [.agg (bU c).toArray] R (fun v B => ∃ r, v = .tuple #[.int .i64 r, .bool (f3 c)] ∧ B = R) := by
 obtain ⟨w, hw⟩ : ∃ w, (fun i => gq c (c.nl.getD i (0, 0))) = w := ⟨_, rfl⟩
 have hG : f3 c = (decide (4 < c.nl.length) || gQ w c.nl.length) := by rw [f3, hw]
 refine aG func116 ntmps116 rfl rfl ?_
 refine ae (ah (am rfl (bJ rfl) ?_))
 rintro _ _ ⟨b1, rfl, rfl⟩
 refine aa rfl (ai rfl) (aa rfl (ai rfl) (ag (ab (ae (ae (ah ?_))))))
 refine aa rfl (al rfl bw rfl eV rfl (by first | exact Nat.zero_add _ | rfl)) ?_
 refine aa rfl (ao ff rfl (aA rfl)) ?_
 refine aa rfl (bu eI rfl) (aa rfl (cy rfl rfl) (ag (ab ?_)))
 refine aw rfl ?_ ?_
 intro c1
 refine ae (ah (aa rfl (ai rfl) (aa rfl (ai rfl) (ag (ab (av (aE (au (.inl rfl) (.cons (ak rfl) (.cons (ak rfl) .nil)) ?_))))))))
 rw [hG, decide_eq_true (by omega), Bool.true_or]
 exact ⟨_, ⟨0, rfl, rfl⟩, inferInstance⟩
 intro c1
 refine aB (ab (ae (ah ?_)))
 refine aa rfl (al rfl bw rfl eV rfl (by first | exact Nat.zero_add _ | rfl)) ?_
 refine aa rfl (ao ff rfl (aA rfl)) ?_
 refine aa rfl (bu eI rfl) (aa rfl (ip rfl rfl) ?_)
 refine am rfl (bn pK rfl (oQ W0 _ 253 [.pointer (some ⟨b1, 0, none⟩)] c.nl.length b1 _ w (hw ▸ Az W0 b1 c hs hgs) (by omega))) ?_
 rintro _ B_ ⟨r, rfl, hB_⟩
 obtain rfl := hB_.symm
 refine aa rfl (aS rfl rfl) (aa rfl (aS rfl rfl) (aa rfl (ai rfl) (aa rfl (ai rfl) (ag (ab (av (au (.inl rfl) (.cons (ak rfl) (.cons (ak rfl) .nil)) ?_)))))))
 rw [hG, decide_eq_false (by omega), Bool.false_or]
 exact ⟨_, ⟨r, rfl, rfl⟩, inferInstance⟩
def dA (c : Cfg) : Nat → Int
 | 0 => (c.nl.length : Int)
 | i + 1 => dA c i + ((c.gl.getD i (0, 0, 0)).2.1 + (c.gl.getD i (0, 0, 0)).2.2)
theorem rA {c : Cfg} (hb : ∀ g ∈ c.gl, 1 ≤ g.2.1 ∧ g.2.1 ≤ 8 ∧ 0 ≤ g.2.2 ∧ g.2.2 ≤ 8 - g.2.1) (hn : c.nl.length ≤ 4) : ∀ i, i ≤ c.gl.length → 0 ≤ dA c i ∧ dA c i ≤ 4 + 8 * i
 | 0, _ => by rw [dA]; omega
 | i + 1, hi => by
  obtain ⟨h1, h2⟩ := rA hb hn i (by omega)
  have := hb _ (List.getElem_mem (show i < c.gl.length by omega))
  rw [dA, show c.gl.getD i (0, 0, 0) = c.gl[i]'(by omega) by simp [List.getD, show i < c.gl.length by omega]]
  omega
theorem rB (W0 : World) (R : List HP) (c : Cfg) (hs : ∀ A, cF (bK W0 A) c.ga 3 dS c.gl) (hb : ∀ g ∈ c.gl, 1 ≤ g.2.1 ∧ g.2.1 ≤ 8 ∧ 0 ≤ g.2.2 ∧ g.2.2 ≤ 8 - g.2.1) (hn : c.nl.length ≤ 4) (hg : c.gl.length ≤ 4) :
    aC Tryz.prog W0 119 [.agg (bU c).toArray] R (fun v B => v = .int .i64 (dA c c.gl.length) ∧ B = R) := by
 have hle := rA hb hn
 refine aG func119 ntmps119 rfl rfl ?_
 refine ae (ah (am rfl (bJ rfl) ?_))
 rintro _ _ ⟨b1, rfl, rfl⟩
 refine aa rfl (ai rfl) (ag (ab (ae (ah ?_))))
 refine aa rfl (al rfl bw rfl eV rfl (by first | exact Nat.zero_add _ | rfl)) ?_
 refine aa rfl (ao ff rfl (aA rfl)) ?_
 refine aa rfl (bu eI rfl) (aa rfl (ai rfl) (ag (ab (ae (ae (ah ?_))))))
 refine aa rfl (al rfl bw rfl dD rfl (by first | exact Nat.zero_add _ | rfl)) ?_
 refine aa rfl (ao dN rfl (aA rfl)) ?_
 refine aa rfl (bu dq rfl) (aa rfl (ac rfl) (ag (ab (aW ?_))))
 refine cT (fun i : Nat => i ≤ c.gl.length) (fun i => [(3, .int .i64 (dA c i)), (10, .slice c.ga c.gl.length c.gc), (11, .int .i64 (c.gl.length : Nat)), (12, .int .i64 (i : Nat))]) (fun _ => R) (fun i => c.gl.length - i) 0 ?_ ?_ ?_ ?_
 exact Nat.zero_le _
 · repeat (first | exact aX | refine aV rfl ?_)
 exact inferInstance
 intro i hi
 refine ae (ah (aa rfl (b0 rfl rfl) (ag (ab (ae ?_)))))
 refine aw rfl ?_ ?_
 intro c3
 refine aB (ab (ae (aW (ae ?_))))
 have hi1 : i < c.gl.length := by omega
 obtain ⟨g, o, hga, hc⟩ := (hs R).at_ hi1
 obtain ⟨x, hx⟩ : ∃ x, c.gl[i] = x := ⟨_, rfl⟩
 rw [hx] at hc
 have hbx := hb _ (List.getElem_mem hi1)
 rw [hx] at hbx
 have hst : dA c (i + 1) = dA c i + (x.2.1 + x.2.2) := by rw [dA, show c.gl.getD i (0, 0, 0) = x by simp [List.getD, hi1, hx]]
 have hl1 := hle i hi
 rw [hga]
 refine ah ?_
 refine aa rfl (ce dq eH rfl rfl rfl hi1 (by first | exact Nat.zero_add _ | rfl)) ?_
 refine aa rfl (cV t7 eH rfl hc.weak rfl) ?_
 refine am rfl (cM mc) ?_
 rintro _ _ ⟨bx, rfl, rfl⟩
 refine bD (cD eH rfl rfl rfl rfl rfl) ?_
 rintro _ _ rfl
 refine ag (ab (ah (aa rfl (ac rfl) ?_)))
 refine aa rfl (al rfl dV rfl az rfl (by first | exact Nat.zero_add _ | rfl)) ?_
 refine aa rfl (ao aQ rfl (aA rfl)) ?_
 refine aa rfl (al rfl dV rfl az rfl (by first | exact Nat.zero_add _ | rfl)) ?_
 refine aa rfl (ao aQ rfl (aA rfl)) ?_
 refine aa rfl (bF rfl rfl (aZ (by omega))) ?_
 refine aa rfl (bF rfl rfl (by rw [aZ (by omega)]; exact hst.symm : IntKind.wrap .i64 (dA c i + (x.2.1 + x.2.2)) = dA c (i + 1))) ?_
 refine aa rfl (ai rfl) (ag (bH (ab (ah ?_))))
 refine aa rfl (bF rfl rfl (by first | exact aZ (by omega) | rfl)) ?_
 refine aa rfl (ac rfl) (ag (ab ?_))
 refine cG (i + 1) ?_ ?_ ?_ ?_
 omega
 omega
 · repeat (first | exact aX | refine aV rfl ?_)
 exact inferInstance
 intro c3
 refine cj (bi (bi (co (ab (ae (ah (aa rfl (ac rfl) (aa rfl (ai rfl) (ag (ab (av (au (.inl rfl) (.cons (ak rfl) .nil) ?_))))))))))))
 obtain rfl : i = c.gl.length := by omega
 exact ⟨_, ⟨rfl, rfl⟩, inferInstance⟩
section
variable {rd : Option Nat} {P : Program} {S : World → Prop} {W0 : World} {N : FSz} {Q : Exit → Act → World → Prop} {e : bQ} {A B R R1 R2 : List HP} {ops : Array Oper} {rest : List Oper}
variable {op : Op} {ty t t' : TypeId} {pos : String} {af : Array Edge} {v u : Value} {d b off : Nat} {x y z : Operand} {l l' vs : List Value}
theorem oR {z : Array Value} {n : Nat} : (Builtin.zeroCells z n).toList.length = n * z.size := by simp [Builtin.zeroCells]
theorem AB {E sz n k c by_ : Nat} {info : TypeInfo} {zz : Value} {an : Option Addr} {olds : List Value} {kk : Int} {kq kn : IntKind} (hu : P.underlying t = some (.slice E)) (htn : P.underlying t' = some (.int kn))
    (hi : P.info? E = some info) (hz : info.zero = some zz) (hsz : info.size = sz) (hby : info.bytes = by_) (hz1 : zz.cells.size = sz) (hsz0 : 0 < sz)
    (hx : ev e x = some (.slice an n c)) (hy : ev e y = some (.int kq kk)) (hk : kk = (k : Int)) (hold : (an = none ∧ olds = []) ∨ ∃ bx ox, an = some ⟨bx, ox, none⟩ ∧ cY (bK W0 A) bx ox olds) (hol : olds.length = n * sz)
    (h0 : 0 < k) (hg : c < n + k) (h63 : n + k ≤ maxLen) (hbig : (n + k) * by_ ≤ 140737488355328) :
    dl P W0 N e A (.call { callee := .builtin .append, args := #[x, y], argTypes := #[t, t'] }) (fun v B => ∃ a' c' zs, v = .slice a' (n + k) c' ∧ zs.length = k * sz ∧ B = osl E sz v (olds ++ zs) :: A) := kv fun a w dst ty pos af g hF hO => by
 subst hk
 subst hsz
 subst hby
 have hsmall : n + k ≤ 9223372036854775807 := by simp only [maxLen] at h63; omega
 have hfc : (Builtin.firstCells info.size n (.slice an n c)).run P w.drew = .ok olds.toArray w.drew := by
  rcases hold with ⟨rfl, rfl⟩ | ⟨bx, ox, rfl, hc⟩
  simp [Builtin.firstCells]
  exact run_firstCells_some (P := P) w.drew info.size n ⟨bx, ox, none⟩ n c olds hol (fun j u hj => by
   have := hc j u hj w hO
   simpa [fu] using this)
 have hbk : k * info.bytes ≤ 281474976710656 := by
  have := Nat.mul_le_mul_right info.bytes (show k ≤ n + k by omega); omega
 have hr := Go.Lib.run_append_grow_zeros (P := P) w t t' ty E info zz kq kn hu htn hi hz an n c olds hfc k h0 hsz0 hg (by omega) hbk (growslice_fits (by omega) hbig)
 have hge := grownCap_ge w (n + k) c E
 have hcm := grownCap_le_maxLen w (n + k) c E h63
 have hnew := (Own.drew hO (w.drawn + 1)).new (ax ((olds ++ (Builtin.zeroCells zz.cells k).toList) ++ (Builtin.zeroCells zz.cells (grownCap w (n + k) c E - (n + k))).toList) E)
 have ea : ((olds ++ (Builtin.zeroCells zz.cells k).toList) ++ (Builtin.zeroCells zz.cells (grownCap w (n + k) c E - (n + k))).toList).toArray = olds.toArray ++ Builtin.zeroCells zz.cells k ++ Builtin.zeroCells zz.cells (grownCap w (n + k) c E - (n + k)) := by apply Array.ext'; simp
 refine ⟨_, { ({ w with drawn := w.drawn + 1 } : World) with heap := w.heap.push (ax ((olds ++ (Builtin.zeroCells zz.cells k).toList) ++ (Builtin.zeroCells zz.cells (grownCap w (n + k) c E - (n + k))).toList) E) }, _, .inl ?_, ⟨some ⟨w.heap.size, 0, none⟩, grownCap w (n + k) c E, (Builtin.zeroCells zz.cells k).toList, rfl, by rw [oR, hz1], rfl⟩, ?_⟩
 simp only [execOp, resolve, invoke, builtin, Sem.run_bind, Sem.run_pure, Result.andThen_ok, List.map_toArray, List.map_cons, List.map_nil, hF.eval hx, hF.eval hy, hr]
 simp only [World.drew, World.alloc, ax, ea]
 refine hnew.ent ?_
 exact @fa _ A A E info.size w.heap.size (n + k) (grownCap w (n + k) c E) (olds ++ (Builtin.zeroCells zz.cells k).toList) _ _ hge hcm (by rw [List.length_append, hol, oR, hz1, Nat.add_mul]) (by
   rw [List.length_append, List.length_append, hol, oR, oR, hz1, ← Nat.add_mul, ← Nat.add_mul]; congr 1; omega) _
theorem AC {f : FuncId} {xs : Array Operand} {ats : Array TypeId} (hx : eL e xs.toList = some vs) (hc : ∀ w, S w → (callFunc f vs.toArray).run P w = .ok (.value v) w) : cC P S N e (.call { callee := .value (.func f), args := xs, argTypes := ats }) v := fun a w dst ty pos af g hF hO => by
 rw [execOp_call_go]
 have he : (#[] ++ xs.map a.eval ++ #[] : Array Value) = vs.toArray := by
  have := hF.evals hx
  rw [← this]; apply Array.ext'; simp
 rw [he, hc w hO]
theorem AD {n c : Nat} {a : Option Addr} (hu : P.underlying t = some (.slice d)) (hx : ev e x = some (.slice a n c)) : cC P S N e (.call { callee := .builtin .cap, args := #[x], argTypes := #[t] }) (.int .i64 (c : Nat)) := fun act w _ _ _ _ _ hF _ => by
 simp [execOp, resolve, invoke, builtin, hF.eval hx, Builtin.cap_, dY hu, goInt]
theorem oS {p q s r : List Value} (h : q.length = r.length) : setR (p ++ q ++ s) p.length r = p ++ r ++ s := by
 rw [lw _ _ _ (by simp only [List.length_append]; omega), ← h, List.append_assoc p q s, List.take_left, ← List.drop_drop, List.drop_left, List.drop_left]
theorem rC {g o : Nat} {l1 l2 : List Value} (h : cY S g o (l1 ++ l2)) : cY S g o l1 := fun i v hi => h i v (by
  rw [List.getElem?_append_left (by
    rcases Nat.lt_or_ge i l1.length with q | q
    · exact q
    rw [List.getElem?_eq_none q] at hi; cases hi)]
  exact hi)
theorem AE {g o : Nat} {l1 l2 : List Value} (h : cY S g o (l1 ++ l2)) : cY S g (o + l1.length) l2 := fun i v hi => by
 rw [Nat.add_assoc]
 exact h (l1.length + i) v (by rw [List.getElem?_append_right (by omega), Nat.add_sub_cancel_left]; exact hi)
theorem vl {l1 l2 l3 : List Value} {o : Nat} [h : Tk pt b A (ax l ty) R] (hl : l = l1 ++ l2 ++ l3) (ho : l1.length = o) : cY (bK W0 A) b o l2 := by
 subst ho
 have h0 : cY (bK W0 A) b 0 (l1 ++ l2) := rC (l2 := l3) (by rw [← hl]; exact dQ (ty := ty) (R := R) (h := h))
 have := AE h0
 rwa [Nat.zero_add] at this
theorem AF {E sz : Nat} {tS tR ba ga na ca nb cb oa ob : Nat} {la lb : List Value} {ta tb : TypeId} (ht : P.underlying tS = some (.slice E)) (hz : ∀ w, (sizeOf E).run P w = .ok sz w) [h1 : Tk pt ba A (ax la ta) R1] [h2 : Tk pt ga R1 (ax lb tb) R2] (hla : oa ≤ la.length) (hlb : 0 < lb.length) {w : World} (hO : Own W0 w A) :
    (Extern.SlicesOverlaps.overlaps #[tS, tS] #[tR] #[.slice (some ⟨ba, oa, none⟩) na ca, .slice (some ⟨ga, ob, none⟩) nb cb]).run P w = .ok (.bool false) w := by
 have hO1 := hO.tk (r := pt) (b := ba)
 have ha := hO1.has.2
 have hO2 := (hO1.drop).tk (r := pt) (b := ga)
 have hb := hO2.has.2
 have hne : ba ≠ ga := by
  intro q; subst q
  have hO3 : Own W0 w (pt ba (ax la ta) :: pt ba (ax lb tb) :: R2) := hO1.perm (h2.perm.cons _)
  obtain ⟨ls, ⟨l1, l2, rfl, e1, l3, l4, rfl, e2, _⟩, hn, _⟩ := hO3.owns
  cases e1; cases e2
  simp at hn
 refine Go.Lib.run_overlaps_apart w tS tR E ht sz hz ⟨ba, oa, none⟩ ⟨ga, ob, none⟩ na ca nb cb hne ta tb la.length lb.length ?_ ?_ (by omega) ?_ ?_
 simp [World.shape?, ha]
 simp [World.shape?, hb]
 simp [World.frozen?, ha]
 simp [World.frozen?, ha]
end
class NOut (Q : Exit → Act → World → Prop) : Prop where
  no : ∀ a w, ¬ Q .outgrown a w
instance FY {n : Act → World → Prop} {Q : Exit → Act → World → Prop} [h : NOut Q] : NOut (Exit.then n Q) := ⟨fun a w k => h.no a w k⟩
instance FZ {id : Nat} {Q : Exit → Act → World → Prop} [h : NOut Q] : NOut (Exit.inBlock id Q) := ⟨fun a w k => h.no a w k⟩
instance G0 {Q : Exit → Act → World → Prop} [h : NOut Q] : NOut (Exit.noGoto Q) := ⟨fun a w k => h.no a w k⟩
instance G1 {P : Program} {W0 : World} {L : Nat} {Post : Value → List HP → Prop} : NOut (mJ P W0 L Post) := ⟨fun a w k => k⟩
instance G2 : NOut (fun _ _ _ => False) := ⟨fun a w k => k⟩
instance G3 {P : Program} {W0 : World} {L : Nat} {Post : Value → List HP → Prop} : POk (mJ P W0 L Post) := ⟨fun c a d v w k => k.elim⟩
instance G4 : POk (fun _ _ _ => False) := ⟨fun c a d v w k => k⟩
section
variable {rd : Option Nat} {P : Program} {W0 : World} {N : FSz} {Q : Exit → Act → World → Prop} {e : bQ} {A : List HP} {ops : Array Oper} {S : World → Prop}
theorem oT (hp : kt rd ops.toList = true) (hq : NOut Q) : ∀ (fuel : Nat) (listed : Array Bool) (a : Act) (w : World), wpAnyH P .any ops Q S fuel listed a w → wpAnyIn (FW rd) 0 P .any ops Q fuel listed a w
 | 0, _, _, _, h => h
 | fuel + 1, listed, a, w, h => ⟨h.1, fun i hi => by
  have h2 := h.2 i hi
  unfold wpOp at h2
  unfold wpOpIn
  cases ho : ops[i]? with
  | none =>
   rw [ho] at h2
   exact oT hp hq fuel _ a w h2.2
  | some o =>
   rw [ho] at h2
   simp only at h2 ⊢
   split at h2
   rename_i hwant
   rw [if_pos hwant]
   rcases h2 with h2 | ⟨_, a', w', h3⟩
   have hsem : o.semAt (FW rd).round a.eval = execOp a.eval o := by
    cases rd with
    | none => rfl
    | some l =>
     refine Oper.semAt_eq _ _ _ (tI ?_)
     simp only [kt, Option.isNone_some, Bool.false_or, List.all_eq_true] at hp
     exact hp _ (by
       obtain ⟨hlt, rfl⟩ := Array.getElem?_eq_some_iff.1 ho
       simp)
   refine ⟨fun _ _ => trivial, ?_⟩
   rw [hsem]
   exact tH (fun a' w' h' => oT hp hq fuel _ a' w' h'.2) h2
   exact absurd h3 (hq.no a' w')
   rename_i hwant
   rw [if_neg hwant]
   exact ⟨fun _ _ => trivial, oT hp hq fuel _ _ w h2.2⟩⟩
theorem AG {id : Nat} (cs : List (Nat × Nat × List Value)) (n : Nat) (hm : P.follows .mixedOrders = true) (hn : Nat.beq ops.size n = true) [hq : NOut Q] (hS : ∀ w, Own W0 w A → SC cs w) (k : (∀ w, Own W0 w A → SC cs w) → aT W0 N (DR P ops Q cs n (Array.replicate n false)) e A) (hp : kt rd ops.toList = true := by rfl) : aT W0 N ((Code.region id ops true).wpR rd P Q) e A := by
 intro a w hF hO
 have : ops.size = n := Nat.eq_of_beq_eq_true hn
 subst this
 exact wpIn_region_any hm (oT hp hq _ _ _ _ (k hS a _ hF (hO.drew _)))
end
abbrev Rn := Int × Int × Int
def bR (x : Rn) : List Value := [.int .i64 x.1, .int .i64 x.2.1, .int .i64 x.2.2]
theorem jm (x : Rn) : (bR x).length = 3 := rfl
theorem rD (x : Rn) : eM (bR x) = true := by simp [bR, eM, Value.oneCell']
theorem rE (l : List Rn) : eM (l.flatMap bR) = true := by
 induction l with
 | nil => rfl
 | cons x l ih =>
  rw [List.flatMap_cons, eM, List.all_append, Bool.and_eq_true]
  exact ⟨rD x, ih⟩
@[reducible] def gG (a : Option Addr) (k c : Nat) (n : Int) : Obj := ax [.slice a k c, .int .i64 n, .bool true] 494
def gR (b : Nat) (x : List Rn × Int) : HP := chk (fun C => ∃ a c, C = [pt b (gG a x.1.length c x.2), osl 498 3 (.slice a x.1.length c) (x.1.flatMap bR)])
section
variable {W0 : World} {N : FSz} {K : Act → World → Prop} {e : bQ} {A B R R1 R2 : List HP} {b n c : Nat} {x : List Rn × Int}
theorem AH [hk : Tk gR b A x R] (h : ∀ a c, aT W0 N K e (pt b (gG a x.1.length c x.2) :: osl 498 3 (.slice a x.1.length c) (x.1.flatMap bR) :: R)) : aT W0 N K e A :=
  ed (r := gR) (b := b) (jh fun C hC => by obtain ⟨a, c, rfl⟩ := hC; exact h a c)
theorem jF {rs : List Rn} {k m : Nat} {nn : Int} {a : Option Addr} {ys : List Value} [h1 : Tk pt b A (gG a k m nn) R1] [h2 : Tk (osl 498 3) (.slice a k m) R1 ys R2] (hk : k = rs.length) (hy : ys = rs.flatMap bR) [q : Ent R2 B] : Ent A (gR b (rs, nn) :: B) := by
 subst hk; subst hy
 exact (Ent.ofPerm (h1.perm.trans (h2.perm.cons _))).trans ((eZ (R := R2) (C := [_, _]) ⟨a, m, rfl⟩).trans (Ent.cons q))
theorem vm {α : Type} {E sz g c i : Nat} {f : α → List Value} {xs : List α} {x : α} {ys : List Value} [h : Tk (osl E sz) (.slice (some ⟨g, 0, none⟩) n c) A ys R] (hy : ys = xs.flatMap f) (hf : ∀ x, (f x).length = sz) (hz : 0 < sz) (hx : xs[i]? = some x) : cY (bK W0 A) g (i * sz) (f x) := by
 obtain ⟨b, off, e1, hc⟩ := zS (S := bK W0 A) (a := some ⟨g, 0, none⟩) (.inr ⟨g, rfl⟩) (uM (E := E) (sz := sz) (n := n) (c := c) (ys := ys)) hf hy hz i x hx
 cases e1
 rw [Nat.zero_add] at hc; exact hc
end
theorem AI (W0 : World) (b1 bt L : Nat) (rs : List Rn) (n : Int) (a : Option Addr) (c : Nat) (hl : rs.length ≤ 1000) (C : Nat → List HP) (I : Nat → Prop) (h0 : I 0) (Stop : List HP → Prop)
    (hr : ∀ i R, i < rs.length → I i → ly Tryz.prog W0 L [.int .i64 (i : Nat), .agg (bR (rs.getD i (0, 0, 0))).toArray] (C i ++ R) (fun v B => ∃ b B', v = .bool b ∧ B = B' ++ R ∧ ((b = true ∧ I (i + 1) ∧ B' = C (i + 1)) ∨ (b = false ∧ Stop B')))) :
    aC Tryz.prog W0 388 [.func (.yield L) #[] #[], .pointer (some ⟨b1, 0, none⟩)] (pt b1 (ax [.pointer (some ⟨bt, 0, none⟩)] 410) :: pt bt (gG a rs.length c n) :: osl 498 3 (.slice a rs.length c) (rs.flatMap bR) :: C 0)
      (fun v B => v = .tuple #[] ∧ ∃ B', B = pt bt (gG a rs.length c n) :: osl 498 3 (.slice a rs.length c) (rs.flatMap bR) :: B' ∧ ((I rs.length ∧ B' = C rs.length) ∨ Stop B')) := by
 refine aG func388 ntmps388 rfl rfl ?_
 refine ae (ah (aa rfl (ao isAgg410 rfl (aA rfl)) ?_))
 refine aa rfl (aF rfl) ?_
 refine aa rfl (al rfl l8 rfl nJ rfl (by first | exact Nat.zero_add _ | rfl)) ?_
 refine aa rfl (ao xH rfl (aA rfl)) ?_
 refine aa rfl (bu eJ rfl) (aa rfl (ac rfl) (ag (ab (aW ?_))))
 refine cT (fun i : Nat => i ≤ rs.length ∧ I i) (fun i => [(0, .func (.yield L) #[] #[]), (8, .slice a rs.length c), (9, .int .i64 (rs.length : Nat)), (10, .int .i64 (i : Nat))]) (fun i => pt bt (gG a rs.length c n) :: osl 498 3 (.slice a rs.length c) (rs.flatMap bR) :: C i) (fun i => rs.length - i) 0 ?_ ?_ ?_ ?_
 exact ⟨Nat.zero_le _, h0⟩
 · repeat (first | exact aX | refine aV rfl ?_)
 exact inferInstance
 intro i ⟨hi, hI⟩
 refine ae (ah (aa rfl (b0 rfl rfl) (ag (ab (ae ?_)))))
 refine aw rfl ?_ ?_
 intro c1
 refine aB (ab (ae (aW (ae ?_))))
 have hi1 : i < rs.length := by omega
 have hgi : rs[i]? = some (rs.getD i (0, 0, 0)) := by simp [List.getD, hi1]
 refine qX (E := 498) (sz := 3) (a := a) (c := c) (n := rs.length) (ys := rs.flatMap bR) (fun hf => ?_)
 obtain ⟨g, rfl⟩ := rk hf (by rw [← List.length_pos_iff, dr jm]; omega)
 refine ah (aa rfl (ac rfl) ?_)
 refine aa rfl (ce eJ fl rfl rfl rfl hi1 (by first | exact Nat.zero_add _ | rfl)) ?_
 refine aa rfl (cV xI fl rfl (vm (f := bR) (E := 498) (sz := 3) (n := rs.length) (c := c) rfl jm (by decide) hgi) rfl) ?_
 refine am rfl (cM t9) ?_
 rintro _ _ ⟨b1, rfl, rfl⟩
 refine aa rfl (ai rfl) (bD (cD fl rfl rfl rfl rfl rfl) ?_)
 rintro _ _ rfl
 refine ag (ab (ae (ah (aa rfl (ac rfl) (aa rfl (ac rfl) (aa rfl (cp xI fl rfl rfl) ?_))))))
 refine z0 rfl rfl rfl (zP (List.perm_append_comm (l₁ := [_, _, _])) (hr i [_, _, _] hi1 hI)) ?_
 rintro _ B_ ⟨b, B', rfl, hB_, hb⟩
 obtain rfl := hB_.symm
 refine qd List.perm_append_comm ?_
 simp only [List.cons_append, List.nil_append]
 refine aa rfl (bM rfl) (ag (ab ?_))
 refine aw rfl ?_ ?_
 intro c3
 have hs : Stop B' := by
  rcases hb with h | h
  exact absurd c3 (by rw [h.1]; decide)
  exact h.2
 refine av (bj (aE (aE (bj (au (.inl rfl) .nil ?_)))))
 exact ⟨_, ⟨rfl, _, rfl, .inr hs⟩, inferInstance⟩
 intro c3
 have hs : I (i + 1) ∧ B' = C (i + 1) := by
  rcases hb with h | h
  exact h.2
  exact absurd (by rw [h.1]; decide) c3
 obtain ⟨hI', rfl⟩ := hs
 refine aB (bH (ab (ah ?_)))
 refine aa rfl (bF rfl rfl (by first | exact aZ (by omega) | rfl)) ?_
 refine aa rfl (ac rfl) (ag (ab ?_))
 refine cG (i + 1) ?_ ?_ ?_ ?_
 exact ⟨by omega, hI'⟩
 omega
 · repeat (first | exact aX | refine aV rfl ?_)
 exact inferInstance
 intro c1
 refine cj (bi (bi (co (au (.inr rfl) .nil ?_))))
 obtain rfl : i = rs.length := by omega
 exact ⟨_, ⟨rfl, _, rfl, .inl ⟨hI, rfl⟩⟩, inferInstance⟩
theorem AJ (W0 : World) (R : List HP) (bt : Nat) :
    aC Tryz.prog W0 358 [.pointer (some ⟨bt, 0, none⟩)] R (fun v B => ∃ b1, v = .func (.func 388) #[] #[.pointer (some ⟨b1, 0, none⟩)] ∧ B = pt b1 (ax [.pointer (some ⟨bt, 0, none⟩)] 410) :: R) := by
 refine aG func358 ntmps358 rfl rfl ?_
 refine ae (ah (am rfl (jM rfl rfl) ?_))
 rintro _ _ ⟨b1, rfl, rfl⟩
 refine aa rfl (ai rfl) (ag (ab (ae (ah (aa rfl (ip rfl rfl) ?_)))))
 refine aa rfl (ai rfl) (ag (ab (av (au (.inl rfl) (.cons (ak rfl) .nil) ?_))))
 exact ⟨_, ⟨b1, rfl, rfl⟩, inferInstance⟩
theorem AK {W0 : World} {A : List HP} {e : bQ} {n' L D b1 bt c : Nat} {n : Int} {a : Option Addr} {ps' : Array Tmp} {asg body : Code} (pe : Code) {Go Stop : List HP → Prop} (rs : List Rn) (hl : rs.length ≤ 1000) (Ct : Nat → List HP) (I : Nat → Prop) (St : List HP → Prop)
    (hp : A.Perm (pt b1 (ax [.pointer (some ⟨bt, 0, none⟩)] 410) :: pt bt (gG a rs.length c n) :: osl 498 3 (.slice a rs.length c) (rs.flatMap bR) :: Ct 0)) (h0 : I 0)
    (hgo : I rs.length → Go (pt bt (gG a rs.length c n) :: osl 498 3 (.slice a rs.length c) (rs.flatMap bR) :: Ct rs.length))
    (hst : ∀ B', St B' → Stop (pt bt (gG a rs.length c n) :: osl 498 3 (.slice a rs.length c) (rs.flatMap bR) :: B'))
    (hrd : ∀ i R', i < rs.length → I i → ly Tryz.prog W0 L [.int .i64 (i : Nat), .agg (bR (rs.getD i (0, 0, 0))).toArray] (ee L ⟨e, n', ps', asg, body, .ready, none, D⟩ :: pt D (.deferred (some [])) :: (Ct i ++ R'))
      (fun v B => (v = .bool true ∧ I (i + 1) ∧ B = ee L ⟨e, n', ps', asg, body, .ready, none, D⟩ :: pt D (.deferred (some [])) :: (Ct (i + 1) ++ R')) ∨
        (v = .bool false ∧ ∃ B', St B' ∧ B = ee L ⟨e, n', ps', asg, body, .done, some pe, D⟩ :: pt D (.deferred (some [])) :: (B' ++ R')))) :
    aC Tryz.prog W0 388 (.func (.yield L) #[] #[] :: [.pointer (some ⟨b1, 0, none⟩)]) (ee L ⟨e, n', ps', asg, body, .ready, none, D⟩ :: pt D (.deferred (some [])) :: A)
      (fun _ B => (∃ C, B = ee L ⟨e, n', ps', asg, body, .ready, none, D⟩ :: pt D (.deferred (some [])) :: C ∧ Go C) ∨ (∃ C, B = ee L ⟨e, n', ps', asg, body, .done, some pe, D⟩ :: pt D (.deferred (some [])) :: C ∧ Stop C)) := by
 have hperm : (ee L ⟨e, n', ps', asg, body, .ready, none, D⟩ :: pt D (.deferred (some [])) :: A).Perm (pt b1 (ax [.pointer (some ⟨bt, 0, none⟩)] 410) :: pt bt (gG a rs.length c n) :: osl 498 3 (.slice a rs.length c) (rs.flatMap bR) :: (ee L ⟨e, n', ps', asg, body, .ready, none, D⟩ :: pt D (.deferred (some [])) :: Ct 0)) :=
   ((hp.cons _).cons _).trans (List.perm_append_comm_assoc [_, _] [_, _, _] (Ct 0))
 refine mH hperm (ji (AI W0 b1 bt L rs n a c hl (fun i => ee L ⟨e, n', ps', asg, body, .ready, none, D⟩ :: pt D (.deferred (some [])) :: Ct i) I h0
   (fun B => ∃ B', St B' ∧ B = ee L ⟨e, n', ps', asg, body, .done, some pe, D⟩ :: pt D (.deferred (some [])) :: B') fun i R hat hI w hO => ?_) ?_)
 obtain ⟨f, tmps, as_, bd, hy, hR⟩ := hrd i R hat hI w hO
 refine ⟨f, tmps, as_, bd, hy, RoundIn.mono hR ?_⟩
 rintro _ w' ⟨v, B, rfl, hB, hO'⟩
 rcases hB with ⟨rfl, hI', rfl⟩ | ⟨rfl, B', hS, rfl⟩
 exact ⟨_, _, rfl, ⟨true, _, rfl, rfl, .inl ⟨rfl, hI', rfl⟩⟩, hO'⟩
 exact ⟨_, _, rfl, ⟨false, ee L ⟨e, n', ps', asg, body, .done, some pe, D⟩ :: pt D (.deferred (some [])) :: B', rfl, rfl, .inr ⟨rfl, B', hS, rfl⟩⟩, hO'⟩
 rintro v B ⟨_, B0, rfl, ⟨hI, rfl⟩ | ⟨B', hS, rfl⟩⟩
 exact ⟨_, .inl ⟨_, rfl, hgo hI⟩, Ent.ofPerm (List.perm_append_comm_assoc [_, _] [_, _] (Ct rs.length))⟩
 exact ⟨_, .inr ⟨_, rfl, hst B' hS⟩, Ent.ofPerm (List.perm_append_comm_assoc [_, _] [_, _] B')⟩
theorem AL (x : Rn) (h : -1000 ≤ x.1 + x.2.1 ∧ x.1 + x.2.1 ≤ 1000) : aC Tryz.prog W0 359 [.agg (bR x).toArray] R (fun v B => v = .int .i64 (x.1 + x.2.1) ∧ B = R) := by
 refine aG func359 ntmps359 rfl rfl ?_
 refine ae (ah (am rfl (bJ rfl) ?_))
 rintro _ _ ⟨b1, rfl, rfl⟩
 refine aa rfl (ai rfl) (ag (ab (ae (ah ?_))))
 refine aa rfl (al rfl tc rfl az rfl (by first | exact Nat.zero_add _ | rfl)) ?_
 refine aa rfl (ao aQ rfl (aA rfl)) ?_
 refine aa rfl (al rfl tc rfl az rfl (by first | exact Nat.zero_add _ | rfl)) ?_
 refine aa rfl (ao aQ rfl (aA rfl)) ?_
 refine aa rfl (bF rfl rfl (aZ (by omega))) ?_
 refine aa rfl (ai rfl) (ag (ab (av (au (.inl rfl) (.cons (ak rfl) .nil) ?_))))
 exact ⟨_, ⟨rfl, rfl⟩, inferInstance⟩
def fQ : List Rn → Int → Nat
 | [], _ => 0
 | x :: l, f => if x.1 + x.2.1 ≤ f then fQ l f + 1 else 0
def iq (rs : List Rn) (f n : Int) : Bool := match rs[fQ rs f]? with
 | some x => decide (x.1 < f + n)
 | none => false
theorem rF : ∀ (rs : List Rn) (f : Int) (i : Nat), i ≤ rs.length → (∀ j (hj : j < rs.length), j < i → rs[j].1 + rs[j].2.1 ≤ f) → (∀ h : i < rs.length, ¬ rs[i].1 + rs[i].2.1 ≤ f) → fQ rs f = i
 | [], f, i, h, _, _ => by simp at h; rw [fQ, h]
 | x :: l, f, 0, _, _, h2 => by
  have := h2 (by simp)
  rw [fQ, if_neg (by simpa using this)]
 | x :: l, f, i + 1, h, h1, h2 => by
  have h0 := h1 0 (by simp) (by omega)
  rw [fQ, if_pos (by simpa using h0), rF l f i (by simpa using h) (fun j hj hji => by
   have := h1 (j + 1) (by simpa using hj) (by omega)
   simpa using this) (fun hi => by
   have := h2 (by simpa using hi)
   simpa using this)]
theorem rG : ∀ (rs : List Rn) (f : Int), fQ rs f ≤ rs.length
 | [], f => Nat.le_refl _
 | x :: l, f => by
  have := rG l f
  rw [fQ]; split
  simpa using this
  exact Nat.zero_le _
def j5 (rs : List Rn) : Prop := ∀ x ∈ rs, 0 ≤ x.1 ∧ 1 ≤ x.2.1 ∧ x.1 + x.2.1 ≤ 64 ∧ 0 ≤ x.2.2 ∧ x.2.2 < 64
theorem j5.get {rs : List Rn} (h : j5 rs) {i : Nat} (hi : i < rs.length) : 0 ≤ (rs.getD i (0, 0, 0)).1 ∧ 1 ≤ (rs.getD i (0, 0, 0)).2.1 ∧ (rs.getD i (0, 0, 0)).1 + (rs.getD i (0, 0, 0)).2.1 ≤ 64 ∧ 0 ≤ (rs.getD i (0, 0, 0)).2.2 ∧ (rs.getD i (0, 0, 0)).2.2 < 64 := by
 rw [show rs.getD i (0, 0, 0) = rs[i] by simp [List.getD, hi]]; exact h _ (List.getElem_mem hi)
theorem AM (b k c : Nat) (a : Option Addr) (n : Int) : aC Tryz.prog W0 335 [.pointer (some ⟨b, 0, none⟩)] (pt b (gG a k c n) :: R) (fun v B => v = .bool false ∧ B = pt b (gG a k c n) :: R) := by
 refine aG func335 ntmps335 rfl rfl ?_
 refine ae (ah (aa rfl (ai rfl) (ag (ab (ae (ah (aa rfl (ac rfl) (aa rfl (dv underlying410 rfl rfl) (aa rfl (ac rfl) ?_)))))))))
 refine bC rfl rfl rfl ?_ ?_
 intro g1_3
 cases g1_3
 intro g1_3
 refine aa rfl (ac rfl) (ar rfl rfl (aa rfl (aF rfl) (ar rfl rfl ?_)))
 refine aa rfl (al rfl l8 rfl cB rfl (by first | exact Nat.zero_add _ | rfl)) ?_
 refine ar rfl rfl (aa rfl (ao fM rfl (aA rfl)) ?_)
 refine ar rfl rfl (aa rfl (bM rfl) (aa rfl (aM rfl rfl) (aa rfl (ai rfl) (ag (ab (av (au (.inl rfl) (.cons (ak rfl) .nil) ?_)))))))
 exact ⟨_, ⟨rfl, rfl⟩, inferInstance⟩
theorem vn (n : Int) (h : 0 ≤ n ∧ n ≤ 64) : aC Tryz.prog W0 247 [.int .i64 n] R (fun v B => ∃ b, v = .tuple #[.pointer (some ⟨b, 0, none⟩), .int .i64 0] ∧ B = gR b ([], n) :: R) := by
 refine aG func247 ntmps247 rfl rfl ?_
 refine ae (ah (aa rfl (ai rfl) (aa rfl (ai rfl) (ag (ab (ae (ae (ah (aa rfl (ac rfl) (aa rfl (b0 rfl rfl) (aa rfl (ac rfl) ?_)))))))))))
 refine bC rfl rfl rfl ?_ ?_
 intro g1_3
 omega
 intro g1_3
 refine aa rfl (ac rfl) (ar rfl rfl (aa rfl (cy rfl rfl) (aa rfl (aM rfl rfl) (ag (ab ?_)))))
 refine aw rfl ?_ ?_
 intro c1
 omega
 intro c1
 refine aB (ab (ae (ah (aa rfl (ac rfl) (aa rfl (bY l8 zeroValue494 (aH nJ (aH az (aH cB bX))) (bq rfl az rfl rfl (Nat.le_of_ble_eq_true rfl) SetL.eq (bq rfl cB rfl rfl (Nat.le_of_ble_eq_true rfl) SetL.eq bW))) ?_)))))
 refine am rfl (bJ rfl) ?_
 rintro _ _ ⟨b1, rfl, rfl⟩
 refine aa rfl (ai rfl) (aa rfl (ai rfl) (ag (ab (av (au (.inl rfl) (.cons (ak rfl) (.cons (ak rfl) .nil)) ?_)))))
 refine ⟨_, ⟨b1, rfl, rfl⟩, ?_⟩
 exact (Ent.cons (fH (E := 498) (sz := 3) (B := R))).trans (jF (rs := []) rfl rfl)
theorem AN (W0 : World) (R : List HP) (bt c : Nat) (rs : List Rn) (n : Int) (a : Option Addr) (hok : j5 rs) (hl : rs.length ≤ 1000) (f k : Int) (hf : 0 ≤ f ∧ f ≤ 64 ∧ 1 ≤ k ∧ k ≤ 64) :
    aC Tryz.prog W0 336 [.pointer (some ⟨bt, 0, none⟩), .int .i64 f, .int .i64 k] (pt bt (gG a rs.length c n) :: osl 498 3 (.slice a rs.length c) (rs.flatMap bR) :: R)
      (fun v B => v = .tuple #[.int .i64 (fQ rs f : Nat), .bool (iq rs f k)] ∧ B = pt bt (gG a rs.length c n) :: osl 498 3 (.slice a rs.length c) (rs.flatMap bR) :: R) := by
 refine aG func336 ntmps336 rfl rfl ?_
 refine ae (ah (am rfl (jM rfl rfl) ?_))
 rintro _ _ ⟨bf, rfl, rfl⟩
 refine am rfl (jM rfl rfl) ?_
 rintro _ _ ⟨bk, rfl, rfl⟩
 refine aa rfl (ai rfl) (aa rfl (ai rfl) (ag (ab (uU (ae (ah (aa rfl (ac rfl) (aa rfl (aF rfl) ?_))))))))
 refine aa rfl (al rfl l8 rfl nJ rfl (by first | exact Nat.zero_add _ | rfl)) ?_
 refine aa rfl (ao xH rfl (aA rfl)) ?_
 refine aa rfl (bu eJ rfl) (am rfl (oe ma rfl) ?_)
 rintro _ _ ⟨ba, rfl, rfl⟩
 refine am rfl (oe zeroValue4 rfl) ?_
 rintro _ _ ⟨bh, rfl, rfl⟩
 refine bD (cm az rfl rfl rfl (Nat.le_of_ble_eq_true rfl) SetL.eq) ?_
 rintro _ _ rfl
 refine bD (cm cB rfl rfl rfl (Nat.le_of_ble_eq_true rfl) SetL.eq) ?_
 rintro _ _ rfl
 refine ag (ab (ae (tK (ab (ae (ae (ah (aa rfl (ac rfl) (am rfl (aU call358 rfl (AJ W0 _ bt)) ?_)))))))))
 rintro _ B_ ⟨b1, rfl, hB_⟩
 obtain rfl := hB_.symm
 refine ag (ab (aW ?_))
 refine zY 0 (fun C => (∀ j, j < rs.length → (rs.getD j (0, 0, 0)).1 + (rs.getD j (0, 0, 0)).2.1 ≤ f) ∧ C = pt bt (gG a rs.length c n) :: osl 498 3 (.slice a rs.length c) (rs.flatMap bR) :: pt bh (ax [.bool false] 4) :: pt ba (ax [.int .i64 (rs.length : Nat)] 3) :: pt bk (ax [.int .i64 k] 3) :: pt bf (ax [.int .i64 f] 3) :: R) (fun C => ∃ i, i < rs.length ∧ (∀ j, j < i → (rs.getD j (0, 0, 0)).1 + (rs.getD j (0, 0, 0)).2.1 ≤ f) ∧ (¬ (rs.getD i (0, 0, 0)).1 + (rs.getD i (0, 0, 0)).2.1 ≤ f) ∧ C = pt bt (gG a rs.length c n) :: osl 498 3 (.slice a rs.length c) (rs.flatMap bR) :: pt bh (ax [.bool (decide ((rs.getD i (0, 0, 0)).1 < f + k))] 4) :: pt ba (ax [.int .i64 (i : Nat)] 3) :: pt bk (ax [.int .i64 k] 3) :: pt bf (ax [.int .i64 f] 3) :: R) rfl call388 ?_ ?_ ?_
 intro L D
 refine AK (.exit 0) rs hl (fun _ => pt bh (ax [.bool false] 4) :: pt ba (ax [.int .i64 (rs.length : Nat)] 3) :: pt bk (ax [.int .i64 k] 3) :: pt bf (ax [.int .i64 f] 3) :: R) (fun i => ∀ j, j < i → (rs.getD j (0, 0, 0)).1 + (rs.getD j (0, 0, 0)).2.1 ≤ f) (fun B => ∃ i, i < rs.length ∧ (∀ j, j < i → (rs.getD j (0, 0, 0)).1 + (rs.getD j (0, 0, 0)).2.1 ≤ f) ∧ (¬ (rs.getD i (0, 0, 0)).1 + (rs.getD i (0, 0, 0)).2.1 ≤ f) ∧ B = pt bh (ax [.bool (decide ((rs.getD i (0, 0, 0)).1 < f + k))] 4) :: pt ba (ax [.int .i64 (i : Nat)] 3) :: pt bk (ax [.int .i64 k] 3) :: pt bf (ax [.int .i64 f] 3) :: R) ((uG (r1 := pt) (b1 := b1) (r2 := pt) (b2 := bt) (r3 := osl 498 3) (b3 := .slice a rs.length c)).trans (List.Perm.refl _)) (fun j hj => absurd hj (Nat.not_lt_zero j)) (fun h => ⟨h, rfl⟩) (fun B' h => by obtain ⟨i, h1, h2, h3, rfl⟩ := h; exact ⟨i, h1, h2, h3, rfl⟩) ?_
 intro i R' hi hI
 have hx := hok.get hi
 obtain ⟨x, hxe⟩ : ∃ x, rs.getD i (0, 0, 0) = x := ⟨_, rfl⟩
 rw [hxe] at hx ⊢
 simp only [List.cons_append, List.nil_append]
 refine z6 rfl rfl ?_
 refine ae (ah (aa rfl (ai rfl) (ag (ab (ah (am rfl (cM t9) ?_))))))
 rintro _ _ ⟨bd, rfl, rfl⟩
 refine bD (cD fl rfl rfl rfl rfl rfl) ?_
 rintro _ _ rfl
 refine ag (z4 rfl ?_)
 refine aW (ae (aW (ae ?_)))
 refine AG [(bd, 0, _), (bf, 0, _)] 5 cz rfl (aK (aK aJ)) (fun hS => ?_)
 refine aj 0 rfl rfl (by kernel_rfl) (by kernel_rfl) (by kernel_rfl) rfl hS (cV xI fl rfl (by first | exact dm (k := 0) rfl | exact dm (k := 1) rfl) rfl) ?_
 refine aj 2 rfl rfl (by kernel_rfl) (by kernel_rfl) (by kernel_rfl) rfl hS (ao aQ rfl (by first | exact aD (k := 0) rfl rfl | exact aD (k := 1) rfl rfl)) ?_
 refine bA 1 (by kernel_rfl) rfl rfl (aU call359 rfl (AL x (by omega))) rfl ?_; clear hS
 rintro _ B_ ⟨rfl, hB_⟩
 obtain rfl := hB_.symm
 refine ⟨(aK (aK aJ)), fun hS => ?_⟩
 refine aj 3 rfl rfl (by kernel_rfl) (by kernel_rfl) (by kernel_rfl) rfl hS (iH rfl rfl) ?_
 refine aj 4 rfl rfl (by kernel_rfl) (by kernel_rfl) (by kernel_rfl) rfl hS (ai rfl) ?_
 refine bL (by kernel_rfl) ?_; clear hS
 refine ab ?_
 refine aw rfl ?_ ?_
 intro c5
 refine cj (eW rfl (bi (co (z5 ?_))))
 have hI' : ∀ j, j < i + 1 → (rs.getD j (0, 0, 0)).1 + (rs.getD j (0, 0, 0)).2.1 ≤ f := fun j hj => by
  rcases Nat.lt_or_ge j i with q | q
  exact hI j q
  obtain rfl : j = i := by omega
  rw [hxe]; exact c5
 exact ⟨_, .inl ⟨rfl, hI', rfl⟩, inferInstance⟩
 intro c5
 refine ae (ah ?_)
 refine aa rfl (al rfl tc rfl az rfl (by first | exact Nat.zero_add _ | rfl)) ?_
 refine aa rfl (ao aQ rfl (aA rfl)) ?_
 refine aa rfl (ao aQ rfl (aA rfl)) ?_
 refine aa rfl (ao aQ rfl (aA rfl)) ?_
 refine aa rfl (bF rfl rfl (aZ (by omega))) ?_
 refine aa rfl (b0 rfl rfl) (aa rfl (ai rfl) (ag (ab ?_)))
 refine aw rfl ?_ ?_
 intro c6
 refine ah (bD (cm cB rfl rfl rfl (Nat.le_of_ble_eq_true rfl) SetL.eq) ?_)
 rintro _ _ rfl
 refine ag (bH (ab (ae (ah (aa rfl (ac rfl) (bD (cm az rfl rfl rfl (Nat.le_of_ble_eq_true rfl) SetL.eq) ?_))))))
 rintro _ _ rfl
 refine ag (ab (cj (eW rfl (uV ?_))))
 refine ⟨_, .inr ⟨rfl, _, ⟨i, hi, hI, by rw [hxe]; exact c5, rfl⟩, rfl⟩, ?_⟩
 simp only [List.cons_append]
 rw [hxe]
 first
   | (rw [decide_eq_true c6]; exact inferInstance)
   | (rw [decide_eq_false c6]; exact inferInstance)
 intro c6
 refine aB (bH (ab (ae (ah (aa rfl (ac rfl) (bD (cm az rfl rfl rfl (Nat.le_of_ble_eq_true rfl) SetL.eq) ?_))))))
 rintro _ _ rfl
 refine ag (ab (cj (eW rfl (uV ?_))))
 refine ⟨_, .inr ⟨rfl, _, ⟨i, hi, hI, by rw [hxe]; exact c5, rfl⟩, rfl⟩, ?_⟩
 simp only [List.cons_append]
 rw [hxe]
 first
   | (rw [decide_eq_true c6]; exact inferInstance)
   | (rw [decide_eq_false c6]; exact inferInstance)
 intro D C hC
 obtain ⟨hall, rfl⟩ := hC
 have hA : fQ rs f = rs.length := rF rs f rs.length (Nat.le_refl _) (fun j hj _ => by have := hall j hj; rwa [show rs.getD j (0, 0, 0) = rs[j] by simp [List.getD, hj]] at this) (fun h => absurd h (Nat.lt_irrefl _))
 have hH : iq rs f k = false := by rw [iq, hA, List.getElem?_eq_none (Nat.le_refl _)]
 refine bH (ab (ae ?_))
 refine cA [(ba, 0, _), (bh, 0, _)] 4 cz rfl (aK (aK aJ)) (fun hS => ?_)
 refine aj 0 rfl rfl (by kernel_rfl) (by kernel_rfl) (by kernel_rfl) rfl hS (ao aQ rfl (by first | exact aD (k := 0) rfl rfl | exact aD (k := 1) rfl rfl)) ?_
 refine aj 1 rfl rfl (by kernel_rfl) (by kernel_rfl) (by kernel_rfl) rfl hS (ao fM rfl (by first | exact aD (k := 0) rfl rfl | exact aD (k := 1) rfl rfl)) ?_
 refine aj 2 rfl rfl (by kernel_rfl) (by kernel_rfl) (by kernel_rfl) rfl hS (ai rfl) ?_
 refine aj 3 rfl rfl (by kernel_rfl) (by kernel_rfl) (by kernel_rfl) rfl hS (ai rfl) ?_
 refine bL (by kernel_rfl) ?_; clear hS
 refine ab (av (kL (u9 (.inl rfl) (.cons (ak rfl) (.cons (ak rfl) .nil)) ?_)))
 rw [hA, hH]
 exact ⟨_, ⟨rfl, rfl⟩, inferInstance⟩
 intro D C hC
 obtain ⟨i, hi, h1, h2, rfl⟩ := hC
 have hgi : rs.getD i (0, 0, 0) = rs[i] := by simp [List.getD, hi]
 have hA : fQ rs f = i := rF rs f i (by omega) (fun j hj hji => by have := h1 j hji; rwa [show rs.getD j (0, 0, 0) = rs[j] by simp [List.getD, hj]] at this) (fun h => by rw [← hgi]; exact h2)
 have hH : iq rs f k = decide ((rs.getD i (0, 0, 0)).1 < f + k) := by rw [iq, hA, List.getElem?_eq_getElem hi, hgi]
 refine co (ab (ae ?_))
 refine cA [(ba, 0, _), (bh, 0, _)] 4 cz rfl (aK (aK aJ)) (fun hS => ?_)
 refine aj 0 rfl rfl (by kernel_rfl) (by kernel_rfl) (by kernel_rfl) rfl hS (ao aQ rfl (by first | exact aD (k := 0) rfl rfl | exact aD (k := 1) rfl rfl)) ?_
 refine aj 1 rfl rfl (by kernel_rfl) (by kernel_rfl) (by kernel_rfl) rfl hS (ao fM rfl (by first | exact aD (k := 0) rfl rfl | exact aD (k := 1) rfl rfl)) ?_
 refine aj 2 rfl rfl (by kernel_rfl) (by kernel_rfl) (by kernel_rfl) rfl hS (ai rfl) ?_
 refine aj 3 rfl rfl (by kernel_rfl) (by kernel_rfl) (by kernel_rfl) rfl hS (ai rfl) ?_
 refine bL (by kernel_rfl) ?_; clear hS
 refine ab (av (kL (u9 (.inl rfl) (.cons (ak rfl) (.cons (ak rfl) .nil)) ?_)))
 rw [hA, hH]
 exact ⟨_, ⟨rfl, rfl⟩, inferInstance⟩
theorem AO (l : List Rn) (a : Option Addr) (n c : Nat) (hl : l.length = n) (hN : n ≤ 1000) (hs : cF (bK W0 R) a 3 bR l) :
    aC Tryz.prog W0 338 [.slice a n c] R
      (fun v B => ∃ a' c', v = .slice a' n c' ∧ B = osl 498 3 (.slice a' n c') (l.flatMap bR) :: R) := by
 subst hl
 refine aG func338 ntmps338 rfl rfl ?_
 refine ae (ah (aa rfl (ai rfl) (ag (ab (ae (ae (ah (aa rfl (ac rfl) (aa rfl (qw eJ rfl rfl) (ag (ab ?_)))))))))))
 refine aw rfl ?_ ?_
 intro c1
 refine ae (ah (aa rfl (ai rfl) (ag (ab (av (aE (au (.inl rfl) (.cons (ak rfl) .nil) ?_)))))))
 have h0 : l = [] := by
  rcases l with _ | ⟨x, l⟩
  rfl
  obtain ⟨b, o, h, _⟩ := hs 0 x rfl
  rw [c1] at h; cases h
 subst h0
 exact ⟨_, ⟨none, 0, rfl, rfl⟩, fH⟩
 intro c1
 have hsrc := hs.src (fun _ => rfl) (fun _ => trivial)
 refine aB (ab (ae (ah (am rfl (mK eJ fl rfl) ?_))))
 rintro _ _ ⟨b1, rfl, rfl⟩
 refine aa rfl (ac rfl) ?_
 refine am rfl (uX (sz := 3) (by_ := 24) (info := Tryz.t498) eJ (by kernel_rfl) rfl rfl rfl rfl (by decide) rfl rfl (news := l.flatMap bR) (by
 rcases hsrc with h | ⟨bs, os, h1, h2⟩
 left; rw [h]; rfl
 right; exact ⟨bs, os, h1, h2.weak⟩) (by rw [dr jm]) (rE l) (by simp only [maxLen]; omega) (by omega)) ?_
 rintro _ _ ⟨a1, c1, rfl, rfl⟩
 refine aa rfl (ai rfl) (ag (ab (av (au (.inl rfl) (.cons (ak rfl) .nil) ?_))))
 rw [Nat.zero_add, List.nil_append]
 exact ⟨_, ⟨a1, c1, rfl, rfl⟩, inferInstance⟩
def fR (rs : List Rn) (i : Nat) (x : Rn) : List Rn := rs.take i ++ x :: rs.drop i
theorem rH (rs : List Rn) (i : Nat) (x : Rn) : (fR rs i x).flatMap bR = (rs.take i).flatMap bR ++ bR x ++ (rs.drop i).flatMap bR := by
 rw [fR, List.flatMap_append, List.flatMap_cons, List.append_assoc]
theorem oU {rs : List Rn} {i : Nat} (x : Rn) (hi : i ≤ rs.length) : (fR rs i x).length = rs.length + 1 := by
 rw [fR, List.length_append, List.length_cons, List.length_take, List.length_drop]; omega
theorem oV (rs : List Rn) (i : Nat) : rs.flatMap bR = (rs.take i).flatMap bR ++ (rs.drop i).flatMap bR := by rw [← List.flatMap_append, List.take_append_drop]
theorem AP (W0 : World) (R : List HP) (rs : List Rn) (a : Option Addr) (c bv : Nat) (x : Rn) (i : Nat) (hi : i ≤ rs.length) (hl : rs.length ≤ 1000) :
    aC Tryz.prog W0 337 [.slice a rs.length c, .int .i64 (i : Nat), .slice (some ⟨bv, 0, none⟩) 1 1] (osl 498 3 (.slice a rs.length c) (rs.flatMap bR) :: pt bv (ax (bR x) 498) :: R)
      (fun v B => ∃ a' c', v = .slice a' (rs.length + 1) c' ∧ B = osl 498 3 (.slice a' (rs.length + 1) c') ((fR rs i x).flatMap bR) :: R) := by
 have hLt : ((rs.take i).flatMap bR).length = i * 3 := by rw [dr jm, List.length_take, Nat.min_eq_left hi]
 have hLd : ((rs.drop i).flatMap bR).length = (rs.length - i) * 3 := by rw [dr jm, List.length_drop]
 have hLr : (rs.flatMap bR).length = rs.length * 3 := dr jm rs
 refine aG func337 ntmps337 rfl rfl ?_
 refine ae ?_
 refine zZ (E := 498) (sz := 3) (a := a) (c := c) (n := rs.length) (fun hcap => ?_)
 refine ah (aa rfl (ai rfl) (ag (ab (ae (ah (aa rfl (ac rfl) (aa rfl (ac rfl) (aa rfl (jS eJ fl rfl (i := i) rfl rfl hi rfl) ?_))))))))
 refine ag (ab (ae (ah (aa rfl (ac rfl) (aa rfl (bu eJ rfl) (aa rfl (ai rfl) (ag (ab (ae (ae (ah (aa rfl (ac rfl) (aa rfl (cu rfl rfl) (ag (ab ?_)))))))))))))))
 refine aw rfl ?_ ?_
 intro c3
 exact absurd c3 (by decide)
 intro c3
 refine aB (ab (ae (ah (aa rfl (ac rfl) (aa rfl (bu eJ rfl) (aa rfl (ai rfl) (ag (ab (ae (ae (ah (aa rfl (ac rfl) (aa rfl (ac rfl) (aa rfl (cu rfl rfl) (ag (ab ?_))))))))))))))))
 refine aw rfl ?_ ?_
 intro c6
 refine ae (ah (aa rfl (ac rfl) (aa rfl (ac rfl) ?_)))
 refine am rfl (dP (sz := 3) (by_ := 24) (info := Tryz.t498) eJ (by kernel_rfl) rfl rfl rfl rfl (by decide) rfl rfl dQ rfl rfl (by simp only [maxLen]; omega) (by omega)) ?_
 rintro _ _ ⟨a1, c1, rfl, rfl⟩
 refine aa rfl (ai rfl) (ag (ab (av (aE (au (.inl rfl) (.cons (ak rfl) .nil) ?_)))))
 obtain rfl : i = rs.length := by omega
 refine ⟨_, ⟨a1, c1, rfl, rfl⟩, ?_⟩
 rw [rH, List.take_of_length_le (Nat.le_refl _), List.drop_length, List.flatMap_nil, List.append_nil]
 exact inferInstance
 intro c6
 have hi1 : i < rs.length := by omega
 refine ed (r := osl 498 3) (b := .slice a rs.length c) (gN (fun h1 h2 => by rw [h2] at hLr; simp at hLr; omega) fun g n' cap sp h1 h2 h3 h4 h5 => ?_)
 cases h1
 refine aB (ab (ae (ae (ah (aa rfl (ac rfl) (aa rfl (ac rfl) ?_))))))
 refine aa rfl (bF rfl rfl (by rw [aZ (by omega)]; omega : IntKind.wrap .i64 ((rs.length : Int) + ((1 : Nat) : Int)) = ((rs.length + 1 : Nat) : Int))) ?_
 refine aa rfl (ac rfl) (aa rfl (AD eJ rfl) ?_)
 refine aa rfl (cy rfl rfl) (ag (ab ?_))
 refine aw rfl ?_ ?_
 intro c8
 refine ae (ah (aa rfl (ac rfl) (aa rfl (ac rfl) ?_)))
 refine aa rfl (kB eJ fl rfl rfl rfl (by omega)) ?_
 refine aa rfl (ac rfl) (aa rfl (ac rfl) ?_)
 refine aa rfl (bF rfl rfl (by rw [aZ (by omega)]; omega : IntKind.wrap .i64 ((rs.length : Int) + ((1 : Nat) : Int)) = ((rs.length + 1 : Nat) : Int))) ?_
 refine aa rfl (ac rfl) ?_
 refine aa rfl (dX rfl rfl (by rw [aZ (by omega)]; omega : IntKind.wrap .i64 (((rs.length + 1 : Nat) : Int) - (i : Int)) = ((rs.length + 1 - i : Nat) : Int))) ?_
 refine am rfl (AB (sz := 3) (by_ := 24) (info := Tryz.t498) (k := rs.length + 1 - i) (olds := (rs.take i).flatMap bR) eJ eb (by kernel_rfl) rfl rfl rfl rfl (by decide) rfl rfl rfl (.inr ⟨g, 0, rfl, rC (l2 := (rs.drop i).flatMap bR ++ sp) (by rw [← List.append_assoc, ← oV]; exact dQ (b := g))⟩) hLt (by omega) (by omega) (by simp only [maxLen]; omega) (by omega)) ?_
 rintro _ _ ⟨a9, k9, zs, rfl, hzs, rfl⟩
 rw [show i + (rs.length + 1 - i) = rs.length + 1 by omega]
 refine ed (r := osl 498 3) (b := .slice a9 (rs.length + 1) k9) (gN (fun q1 q2 => by
  have := congrArg List.length q2
  rw [List.length_append, hLt, hzs] at this; simp at this; omega) fun g9 n9 cap9 sp9 q1 q2 q3 q4 q5 => ?_)
 cases q1
 refine aa rfl (ai rfl) (ag (ab (ae (ah (aa rfl (ac rfl) (aa rfl (ac rfl) ?_))))))
 refine aa rfl (jS eJ fl rfl (i := i) (a' := some ⟨g9, i * 3, none⟩) rfl rfl (by omega) (by rw [gF, if_neg (by omega)]; simp [fu])) ?_
 refine aa rfl (ac rfl) ?_
 refine am rfl (lz eJ fl rfl rfl (m := 1) (vs := bR x) (Nat.min_eq_left (by omega)) (dQ (b := bv)) rfl (rD x) (by rw [List.length_append, List.length_append, hLt, hzs]; omega) rfl) ?_
 rintro _ B_ ⟨rfl, hB_⟩
 obtain rfl := hB_.symm
 refine ag (ab (ae ?_))
 refine cA [] 9 cz rfl aJ (fun hS => ?_)
 refine aj 0 rfl rfl (by kernel_rfl) (by kernel_rfl) (by kernel_rfl) rfl hS (ac rfl) ?_
 refine aj 1 rfl rfl (by kernel_rfl) (by kernel_rfl) (by kernel_rfl) rfl hS (ac rfl) ?_
 refine aj 2 rfl rfl (by kernel_rfl) (by kernel_rfl) (by kernel_rfl) rfl hS (ac rfl) ?_
 refine aj 3 rfl rfl (by kernel_rfl) (by kernel_rfl) (by kernel_rfl) rfl hS (bF rfl rfl (by rw [aZ (by omega)]; omega : IntKind.wrap .i64 ((i : Int) + ((1 : Nat) : Int)) = ((i + 1 : Nat) : Int))) ?_
 refine aj 4 rfl rfl (by kernel_rfl) (by kernel_rfl) (by kernel_rfl) rfl hS (jS eJ fl rfl (i := i + 1) (a' := some ⟨g9, (i + 1) * 3, none⟩) rfl rfl (by omega) (by rw [gF, if_neg (by omega)]; simp [fu])) ?_
 refine aj 5 rfl rfl (by kernel_rfl) (by kernel_rfl) (by kernel_rfl) rfl hS (ac rfl) ?_
 refine aj 6 rfl rfl (by kernel_rfl) (by kernel_rfl) (by kernel_rfl) rfl hS (ac rfl) ?_
 refine aj 7 rfl rfl (by kernel_rfl) (by kernel_rfl) (by kernel_rfl) rfl hS (jS eJ fl rfl (i := i) (a' := some ⟨g, i * 3, none⟩) rfl rfl (by omega) (by rw [gF, if_neg (by omega)]; simp [fu])) ?_
 refine bA 8 (by kernel_rfl) rfl rfl (lz eJ fl rfl rfl (m := rs.length - i) (vs := (rs.drop i).flatMap bR) (Nat.min_eq_left (by omega)) (vl (b := g) (l1 := (rs.take i).flatMap bR) (l3 := sp) (by rw [← oV]) hLt) hLd (rE _) (by rw [mr, List.length_append, List.length_append, hLt, hzs]; omega) rfl) rfl ?_; clear hS
 rintro _ B_ ⟨rfl, hB_⟩
 obtain rfl := hB_.symm
 refine ⟨aJ, fun hS => ?_⟩
 refine bL (by kernel_rfl) ?_; clear hS
 refine ab (ae (ah (aa rfl (ac rfl) (aa rfl (ai rfl) (ag (ab (av (aE (au (.inl rfl) (.cons (ak rfl) .nil) ?_)))))))))
 obtain ⟨z1, z2, rfl, hz1⟩ : ∃ z1 z2, zs = z1 ++ z2 ∧ z1.length = 3 := ⟨zs.take 3, zs.drop 3, (List.take_append_drop 3 zs).symm, by rw [List.length_take]; omega⟩
 have hz2 : z2.length = (rs.length - i) * 3 := by rw [List.length_append] at hzs; omega
 have hL : setR (setR ((rs.take i).flatMap bR ++ (z1 ++ z2) ++ sp9) (i * 3) (bR x)) ((i + 1) * 3) ((rs.drop i).flatMap bR) = (fR rs i x).flatMap bR ++ sp9 := by
  rw [rH, ← hLt, show (rs.take i).flatMap bR ++ (z1 ++ z2) ++ sp9 = (rs.take i).flatMap bR ++ z1 ++ (z2 ++ sp9) by simp, oS (by rw [hz1]; rfl)]
  have e : (i + 1) * 3 = ((rs.take i).flatMap bR ++ bR x).length := by rw [List.length_append, hLt, jm, Nat.succ_mul]
  rw [e, ← List.append_assoc, oS (by rw [hz2, hLd])]
 rw [hL]
 have hlen : ((fR rs i x).flatMap bR).length = (rs.length + 1) * 3 := by rw [dr jm, oU x hi]
 refine ⟨_, ⟨some ⟨g9, 0, none⟩, k9, rfl, rfl⟩, ?_⟩
 exact fa q2 q3 hlen (by rw [List.length_append, hlen]; rw [List.length_append, List.length_append, hLt, List.length_append, hz1, hz2] at q5; omega)
 intro c8
 refine aB (ab (ae (ah (aa rfl (ac rfl) (aa rfl (ac rfl) (aa rfl (ac rfl) ?_))))))
 refine aa rfl (bF rfl rfl (by rw [aZ (by omega)]; omega : IntKind.wrap .i64 ((rs.length : Int) + ((1 : Nat) : Int)) = ((rs.length + 1 : Nat) : Int))) ?_
 refine aa rfl (kB eJ fl rfl rfl rfl (by omega)) ?_
 refine aa rfl (ai rfl) (ag (ab (ae (ae (ah (aa rfl (ac rfl) (aa rfl (ac rfl) (aa rfl (ac rfl) (aa rfl (ac rfl) ?_)))))))))
 refine aa rfl (bF rfl rfl (by rw [aZ (by omega)]; omega : IntKind.wrap .i64 ((i : Int) + ((1 : Nat) : Int)) = ((i + 1 : Nat) : Int))) ?_
 refine aa rfl (jS eJ fl rfl (i := i + 1) (a' := some ⟨g, (i + 1) * 3, none⟩) rfl rfl (by omega) (by rw [gF, if_neg (by omega)]; simp [fu])) ?_
 refine aa rfl (AC (v := .bool false) rfl (fun w hO => by have h1 := AF (P := Tryz.prog) (tR := 4) (oa := 0) (na := 1) (ca := 1) (ob := (i + 1) * 3) (nb := rs.length + 1 - (i + 1)) (cb := c - (i + 1)) (ba := bv) (ga := g) (la := bR x) (lb := rs.flatMap bR ++ sp) eJ fl (Nat.zero_le _) (by rw [h5]; omega) hO; rw [run_callFunc_extern func375 (by kernel_rfl) (by kernel_rfl) (by kernel_rfl) (e := Extern.SlicesOverlaps.overlaps #[492, 492] #[4]) (by kernel_rfl), h1]; rfl)) ?_
 refine aa rfl (bM rfl) (ag (ab ?_))
 refine aw rfl ?_ ?_
 intro c14
 refine ae ?_
 refine cA [] 9 cz rfl aJ (fun hS => ?_)
 refine aj 0 rfl rfl (by kernel_rfl) (by kernel_rfl) (by kernel_rfl) rfl hS (ac rfl) ?_
 refine aj 1 rfl rfl (by kernel_rfl) (by kernel_rfl) (by kernel_rfl) rfl hS (ac rfl) ?_
 refine aj 2 rfl rfl (by kernel_rfl) (by kernel_rfl) (by kernel_rfl) rfl hS (ac rfl) ?_
 refine aj 3 rfl rfl (by kernel_rfl) (by kernel_rfl) (by kernel_rfl) rfl hS (bF rfl rfl (by rw [aZ (by omega)]; omega : IntKind.wrap .i64 ((i : Int) + ((1 : Nat) : Int)) = ((i + 1 : Nat) : Int))) ?_
 refine aj 4 rfl rfl (by kernel_rfl) (by kernel_rfl) (by kernel_rfl) rfl hS (jS eJ fl rfl (i := i + 1) (a' := some ⟨g, (i + 1) * 3, none⟩) rfl rfl (by omega) (by rw [gF, if_neg (by omega)]; simp [fu])) ?_
 refine aj 5 rfl rfl (by kernel_rfl) (by kernel_rfl) (by kernel_rfl) rfl hS (ac rfl) ?_
 refine aj 6 rfl rfl (by kernel_rfl) (by kernel_rfl) (by kernel_rfl) rfl hS (ac rfl) ?_
 refine aj 7 rfl rfl (by kernel_rfl) (by kernel_rfl) (by kernel_rfl) rfl hS (jS eJ fl rfl (i := i) (a' := some ⟨g, i * 3, none⟩) rfl rfl (by omega) (by rw [gF, if_neg (by omega)]; simp [fu])) ?_
 refine bA 8 (by kernel_rfl) rfl rfl (lz eJ fl rfl rfl (m := rs.length - i) (vs := (rs.drop i).flatMap bR) ((Nat.min_eq_right (by omega)).trans (by omega)) (vl (b := g) (l1 := (rs.take i).flatMap bR) (l3 := sp) (by rw [← oV]) hLt) hLd (rE _) (by omega) rfl) rfl ?_; clear hS
 rintro _ B_ ⟨rfl, hB_⟩
 obtain rfl := hB_.symm
 refine ⟨aJ, fun hS => ?_⟩
 refine bL (by kernel_rfl) ?_; clear hS
 refine ab (ae (ah (aa rfl (ac rfl) (aa rfl (ac rfl) ?_))))
 refine aa rfl (jS eJ fl rfl (i := i) (a' := some ⟨g, i * 3, none⟩) rfl rfl (by omega) (by rw [gF, if_neg (by omega)]; simp [fu])) ?_
 refine aa rfl (ac rfl) ?_
 refine am rfl (lz eJ fl rfl rfl (m := 1) (vs := bR x) (Nat.min_eq_left (by omega)) (dQ (b := bv)) rfl (rD x) (by rw [mr]; omega) rfl) ?_
 rintro _ B_ ⟨rfl, hB_⟩
 obtain rfl := hB_.symm
 refine ag (ab (ae (ah (aa rfl (ac rfl) (aa rfl (ai rfl) (ag (ab (av (aE (au (.inl rfl) (.cons (ak rfl) .nil) ?_))))))))))
 have hsp : 3 ≤ sp.length := by rw [List.length_append, hLr] at h5; omega
 obtain ⟨s1, s2, rfl, hs1⟩ : ∃ s1 s2, sp = s1 ++ s2 ∧ s1.length = 3 := ⟨sp.take 3, sp.drop 3, (List.take_append_drop 3 sp).symm, by rw [List.length_take]; omega⟩
 obtain ⟨q1, q2, hq, hq1⟩ : ∃ q1 q2, (rs.drop i).flatMap bR ++ s1 = q1 ++ q2 ∧ q1.length = 3 := ⟨((rs.drop i).flatMap bR ++ s1).take 3, ((rs.drop i).flatMap bR ++ s1).drop 3, (List.take_append_drop 3 _).symm, by rw [List.length_take, List.length_append]; omega⟩
 have hq2 : q2.length = ((rs.drop i).flatMap bR).length := by
  have := congrArg List.length hq
  rw [List.length_append, List.length_append] at this; omega
 have hL : setR (setR (rs.flatMap bR ++ (s1 ++ s2)) ((i + 1) * 3) ((rs.drop i).flatMap bR)) (i * 3) (bR x) = (fR rs i x).flatMap bR ++ s2 := by
  have h0 : rs.flatMap bR ++ (s1 ++ s2) = (rs.take i).flatMap bR ++ q1 ++ q2 ++ s2 := by
   conv => lhs; rw [oV rs i]
   rw [List.append_assoc, ← List.append_assoc ((rs.drop i).flatMap bR), hq]
   simp only [List.append_assoc]
  have e : (i + 1) * 3 = ((rs.take i).flatMap bR ++ q1).length := by rw [List.length_append, hLt, hq1, Nat.succ_mul]
  have h6 : (rs.take i).flatMap bR ++ q1 ++ (rs.drop i).flatMap bR ++ s2 = (rs.take i).flatMap bR ++ q1 ++ ((rs.drop i).flatMap bR ++ s2) := by simp only [List.append_assoc]
  have h7 := oS (p := (rs.take i).flatMap bR) (q := q1) (s := (rs.drop i).flatMap bR ++ s2) (r := bR x) (by rw [hq1]; rfl)
  rw [hLt] at h7
  rw [h0, e, oS hq2, h6, h7, rH]
  simp only [List.append_assoc]
 rw [hL]
 have hlen : ((fR rs i x).flatMap bR).length = (rs.length + 1) * 3 := by rw [dr jm, oU x hi]
 refine ⟨_, ⟨some ⟨g, 0, none⟩, c, rfl, rfl⟩, ?_⟩
 exact fa (by omega) h3 hlen (by rw [List.length_append, hlen]; rw [List.length_append, List.length_append, hLr, hs1] at h5; omega)
 intro c14
 first | exact absurd rfl c14 | exact absurd (by decide) c14
def dB (rs : List Rn) (n f k w : Int) : Int := if f < 0 ∨ k < 1 ∨ n < f ∨ n - f < k ∨ w < 0 ∨ 64 ≤ w then 1 else if iq rs f k then 5 else 0
def eh (rs : List Rn) (n f k w : Int) : List Rn := if dB rs n f k w = 0 then fR rs (fQ rs f) (f, k, w) else rs
theorem rI {rs : List Rn} {n f k w : Int} (h : j5 rs) (hn : n ≤ 64) : j5 (eh rs n f k w) := by
 unfold eh; split
 rename_i he
 have hb : ¬ (f < 0 ∨ k < 1 ∨ n < f ∨ n - f < k ∨ w < 0 ∨ 64 ≤ w) := fun q => by rw [dB, if_pos q] at he; exact absurd he (by decide)
 intro x hx
 rw [fR] at hx
 rcases List.mem_append.1 hx with q | q
 exact h x (List.mem_of_mem_take q)
 rcases List.mem_cons.1 q with rfl | q
 exact ⟨by show 0 ≤ f; omega, by show 1 ≤ k; omega, by show f + k ≤ 64; omega, by show 0 ≤ w; omega, by show w < 64; omega⟩
 exact h x (List.mem_of_mem_drop q)
 exact h
theorem vo {rs : List Rn} {n f k w : Int} : (eh rs n f k w).length ≤ rs.length + 1 := by
 unfold eh; split
 rw [oU _ (rG _ _)]; omega
 omega
theorem vp (W0 : World) (R : List HP) (b : Nat) (rs : List Rn) (n : Int) (hn : 0 ≤ n ∧ n ≤ 64) (hok : j5 rs) (hl : rs.length ≤ 900) (f k w : Int) :
    aC Tryz.prog W0 249 [.pointer (some ⟨b, 0, none⟩), .int .i64 f, .int .i64 k, .int .i64 w] (gR b (rs, n) :: R) (fun v B => v = .int .i64 (dB rs n f k w) ∧ B = gR b (eh rs n f k w, n) :: R) := by
 refine aG func249 ntmps249 rfl rfl ?_
 refine ae ?_
 refine AH (b := b) fun a c => ?_
 dsimp only
 refine ah (aa rfl (ai rfl) (ag (ab (ae (aW (ae (ah (aa rfl (ac rfl) (am rfl (bn call335 rfl (AM b rs.length c a n)) ?_)))))))))
 rintro _ B_ ⟨rfl, hB_⟩
 obtain rfl := hB_.symm
 refine aa rfl (ai rfl) (ag (ab ?_))
 refine aw rfl ?_ ?_
 intro c1
 exact absurd c1 (by decide)
 intro c1
 refine ae (ae (ah (aa rfl (ac rfl) (aa rfl (b0 rfl rfl) (aa rfl (ai rfl) (ag (ab ?_)))))))
 refine aw rfl ?_ ?_
 intro c3
 refine aB (ab (cg rfl (ae (ah (aa rfl (ai rfl) (ag (ab (av (bj (aE (au (.inl rfl) (.cons (ak rfl) .nil) ?_)))))))))))
 have he : dB rs n f k w = 1 := by rw [dB, if_pos (by omega)]
 rw [eh, he, if_neg (by decide)]
 exact ⟨_, ⟨rfl, rfl⟩, jF rfl rfl⟩
 intro c3
 refine ae (ah (aa rfl (ac rfl) (aa rfl (b0 rfl rfl) (aa rfl (ai rfl) (ag (ab ?_))))))
 refine aw rfl ?_ ?_
 intro c4
 refine aB (ab (cg rfl (ae (ah (aa rfl (ai rfl) (ag (ab (av (bj (aE (au (.inl rfl) (.cons (ak rfl) .nil) ?_)))))))))))
 have he : dB rs n f k w = 1 := by rw [dB, if_pos (by omega)]
 rw [eh, he, if_neg (by decide)]
 exact ⟨_, ⟨rfl, rfl⟩, jF rfl rfl⟩
 intro c4
 refine ae (ah (aa rfl (ac rfl) (aa rfl (ac rfl) (aa rfl (aF rfl) ?_))))
 refine aa rfl (al rfl l8 rfl az rfl (by first | exact Nat.zero_add _ | rfl)) ?_
 refine aa rfl (ao aQ rfl (aA rfl)) ?_
 refine aa rfl (cy rfl rfl) (aa rfl (ai rfl) (ag (ab ?_)))
 refine aw rfl ?_ ?_
 intro c5
 refine aB (ab (cg rfl (ae (ah (aa rfl (ai rfl) (ag (ab (av (bj (aE (au (.inl rfl) (.cons (ak rfl) .nil) ?_)))))))))))
 have he : dB rs n f k w = 1 := by rw [dB, if_pos (by omega)]
 rw [eh, he, if_neg (by decide)]
 exact ⟨_, ⟨rfl, rfl⟩, jF rfl rfl⟩
 intro c5
 refine ae (ah (aa rfl (ac rfl) (aa rfl (ac rfl) (aa rfl (aF rfl) ?_))))
 refine aa rfl (al rfl l8 rfl az rfl (by first | exact Nat.zero_add _ | rfl)) ?_
 refine aa rfl (ao aQ rfl (aA rfl)) ?_
 refine aa rfl (ac rfl) ?_
 refine aa rfl (dX rfl rfl (aZ (by omega))) ?_
 refine aa rfl (cy rfl rfl) (aa rfl (ai rfl) (ag (ab ?_)))
 refine aw rfl ?_ ?_
 intro c6
 refine aB (ab (cg rfl (ae (ah (aa rfl (ai rfl) (ag (ab (av (bj (aE (au (.inl rfl) (.cons (ak rfl) .nil) ?_)))))))))))
 have he : dB rs n f k w = 1 := by rw [dB, if_pos (by omega)]
 rw [eh, he, if_neg (by decide)]
 exact ⟨_, ⟨rfl, rfl⟩, jF rfl rfl⟩
 intro c6
 refine ae (ah (aa rfl (ac rfl) (aa rfl (b0 rfl rfl) (aa rfl (ai rfl) (ag (ab ?_))))))
 refine aw rfl ?_ ?_
 intro c7
 refine aB (ab (cg rfl (ae (ah (aa rfl (ai rfl) (ag (ab (av (bj (aE (au (.inl rfl) (.cons (ak rfl) .nil) ?_)))))))))))
 have he : dB rs n f k w = 1 := by rw [dB, if_pos (by omega)]
 rw [eh, he, if_neg (by decide)]
 exact ⟨_, ⟨rfl, rfl⟩, jF rfl rfl⟩
 intro c7
 refine ah (aa rfl (ac rfl) (aa rfl (cK rfl rfl) (aa rfl (ai rfl) (ag (ab ?_)))))
 refine aw rfl ?_ ?_
 intro c8
 refine ae (ah (aa rfl (ai rfl) (ag (ab (av (bj (aE (au (.inl rfl) (.cons (ak rfl) .nil) ?_))))))))
 have he : dB rs n f k w = 1 := by rw [dB, if_pos (by omega)]
 rw [eh, he, if_neg (by decide)]
 exact ⟨_, ⟨rfl, rfl⟩, jF rfl rfl⟩
 intro c8
 refine aB (bH (ab (ae (ah (aa rfl (ac rfl) (aa rfl (ac rfl) (aa rfl (ac rfl) ?_)))))))
 refine am rfl (eX call336 rfl (AN W0 _ b c rs n a hok (by omega) f k (by omega))) ?_
 rintro _ B_ ⟨rfl, hB_⟩
 obtain rfl := hB_.symm
 refine aa rfl (ac rfl) (aa rfl (aS rfl rfl) (aa rfl (aS rfl rfl) (aa rfl (ai rfl) (aa rfl (ai rfl) (ag (ab (ae (ae (ah (aa rfl (ac rfl) (ag (ab ?_))))))))))))
 refine aw rfl ?_ ?_
 intro c11
 refine ae (ah (aa rfl (ai rfl) (ag (ab (av (aE (au (.inl rfl) (.cons (ak rfl) .nil) ?_)))))))
 have he : dB rs n f k w = 5 := by rw [dB, if_neg (by omega), if_pos c11]
 rw [eh, he, if_neg (by decide)]
 exact ⟨_, ⟨rfl, rfl⟩, jF rfl rfl⟩
 intro c11
 refine aB (ab (ae ?_))
 have he : dB rs n f k w = 0 := by rw [dB, if_neg (by omega), if_neg c11]
 have hal := rG rs f
 refine zR (E := 498) (sz := 3) (a := a) (n := rs.length) (c := c) bR rs jm (by decide) rfl (fun hs => ?_)
 refine ah (aa rfl (ac rfl) (aa rfl (ac rfl) (aa rfl (aF rfl) ?_)))
 refine aa rfl (al rfl l8 rfl nJ rfl (by first | exact Nat.zero_add _ | rfl)) ?_
 refine aa rfl (ao xH rfl (aA rfl)) ?_
 refine am rfl (aU call338 rfl (AO rs a rs.length c rfl (by omega) hs)) ?_
 rintro _ B_ ⟨a2, cc, rfl, hB_⟩
 obtain rfl := hB_.symm
 refine aa rfl (ac rfl) (aa rfl (ac rfl) (aa rfl (ac rfl) (aa rfl (ac rfl) (aa rfl (bY tc t9 (aH az (aH az (aH az bX))) (bq rfl az rfl rfl (Nat.le_of_ble_eq_true rfl) SetL.eq (bq rfl az rfl rfl (Nat.le_of_ble_eq_true rfl) SetL.eq (bq rfl az rfl rfl (Nat.le_of_ble_eq_true rfl) SetL.eq bW)))) ?_))))
 refine am rfl (g5 eJ fl t9 rfl (eN rfl rfl fZ) rfl (by decide) (by decide) (by decide)) ?_
 rintro _ _ ⟨bv, rfl, rfl⟩
 refine am rfl (eX call337 rfl (AP W0 _ rs a2 cc bv (f, k, w) (fQ rs f) hal (by omega))) ?_
 rintro _ B_ ⟨a3, c3', rfl, hB_⟩
 obtain rfl := hB_.symm
 refine aa rfl (aF rfl) ?_
 refine aa rfl (al rfl l8 rfl nJ rfl (by first | exact Nat.zero_add _ | rfl)) ?_
 refine bD (cm nJ rfl rfl rfl (Nat.le_of_ble_eq_true rfl) SetL.eq) ?_
 rintro _ _ rfl
 refine ag (ab (ae (ah (aa rfl (ai rfl) (ag (ab (av (au (.inl rfl) (.cons (ak rfl) .nil) ?_))))))))
 rw [eh, he, if_pos rfl]
 exact ⟨_, ⟨rfl, rfl⟩, jF (oU _ hal).symm rfl⟩
def f5 : List Rn → Int → Option Int
 | [], _ => none
 | x :: l, i => if x.1 ≤ i ∧ i < x.1 + x.2.1 then some x.2.2 else f5 l i
theorem AQ {rs : List Rn} (h : j5 rs) : ∀ {x w : Int}, f5 rs x = some w → 0 ≤ w ∧ w < 64 := by
 intro x w hw
 induction rs with
 | nil => cases hw
 | cons y l ih =>
  rw [f5] at hw
  split at hw
  cases hw
  have := h y (by simp)
  exact ⟨this.2.2.2.1, this.2.2.2.2⟩
  exact ih (fun z hz => h z (by simp [hz])) hw
def kO (rs : List Rn) : Prop := rs.Pairwise fun x y => x.1 + x.2.1 ≤ y.1
theorem vq (x : Rn) (l : List Rn) (f k : Int) : iq (x :: l) f k = if x.1 + x.2.1 ≤ f then iq l f k else decide (x.1 < f + k) := by
 unfold iq; rw [fQ]
 by_cases h : x.1 + x.2.1 ≤ f
 simp only [if_pos h, List.getElem?_cons_succ]
 simp only [if_neg h, List.getElem?_cons_zero]
theorem vr (x y : Rn) (l : List Rn) (f : Int) : fR (x :: l) (fQ (x :: l) f) y = if x.1 + x.2.1 ≤ f then x :: fR l (fQ l f) y else y :: x :: l := by
 unfold fR; rw [fQ]
 by_cases h : x.1 + x.2.1 ≤ f
 simp only [if_pos h, List.take_succ_cons, List.drop_succ_cons, List.cons_append]
 simp only [if_neg h, List.take_zero, List.drop_zero, List.nil_append]
theorem AR {l : List Rn} {i : Int} (h : f5 l i ≠ none) : ∃ y ∈ l, y.1 ≤ i ∧ i < y.1 + y.2.1 := by
 induction l with
 | nil => exact absurd rfl h
 | cons x l ih =>
  rw [f5] at h
  by_cases q : x.1 ≤ i ∧ i < x.1 + x.2.1
  exact ⟨x, by simp, q⟩
  rw [if_neg q] at h
  obtain ⟨y, hy, h2⟩ := ih h
  exact ⟨y, by simp [hy], h2⟩
theorem vt : ∀ {rs : List Rn} {f k : Int}, kO rs → (∀ x ∈ rs, 1 ≤ x.2.1) → 1 ≤ k → (iq rs f k = true ↔ ∃ i, f ≤ i ∧ i < f + k ∧ f5 rs i ≠ none)
 | [], f, k, _, _, _ => by
  constructor
  intro h; simp [iq] at h
  rintro ⟨i, _, _, h⟩; exact absurd rfl h
 | x :: l, f, k, hs, hp, hk => by
  obtain ⟨h1, h2⟩ := List.pairwise_cons.1 hs
  have hx := hp x (by simp)
  rw [vq]
  by_cases q : x.1 + x.2.1 ≤ f
  rw [if_pos q, vt h2 (fun y hy => hp y (by simp [hy])) hk]
  constructor
  rintro ⟨i, a, b, c⟩; exact ⟨i, a, b, by rw [f5, if_neg (by omega)]; exact c⟩
  rintro ⟨i, a, b, c⟩; rw [f5, if_neg (by omega)] at c; exact ⟨i, a, b, c⟩
  rw [if_neg q, decide_eq_true_iff]
  constructor
  intro h
  by_cases q2 : f ≤ x.1
  exact ⟨x.1, q2, h, by rw [f5, if_pos (by omega)]; simp⟩
  exact ⟨f, Int.le_refl _, by omega, by rw [f5, if_pos (by omega)]; simp⟩
  rintro ⟨i, a, b, c⟩
  rw [f5] at c
  by_cases q2 : x.1 ≤ i ∧ i < x.1 + x.2.1
  omega
  rw [if_neg q2] at c
  obtain ⟨y, hy, h3⟩ := AR c
  have := h1 y hy
  omega
theorem vu : ∀ {rs : List Rn} {f k w : Int} (i : Int), f5 (fR rs (fQ rs f) (f, k, w)) i = if f ≤ i ∧ i < f + k then some w else f5 rs i
 | [], f, k, w, i => by
  show f5 [(f, k, w)] i = _
  rw [f5, f5]; rfl
 | x :: l, f, k, w, i => by
  rw [vr]
  by_cases q : x.1 + x.2.1 ≤ f
  rw [if_pos q, f5, vu i, f5]
  by_cases q2 : x.1 ≤ i ∧ i < x.1 + x.2.1
  rw [if_pos q2, if_pos q2, if_neg (by omega)]
  rw [if_neg q2, if_neg q2]
  rw [if_neg q, f5]
theorem AS {x y : Rn} {l : List Rn} {i : Nat} (h : x ∈ fR l i y) : x = y ∨ x ∈ l := by
 unfold fR at h
 rcases List.mem_append.1 h with q | q
 exact .inr (List.mem_of_mem_take q)
 rcases List.mem_cons.1 q with q | q
 exact .inl q
 exact .inr (List.mem_of_mem_drop q)
theorem vv : ∀ {rs : List Rn} {f k w : Int}, kO rs → (∀ x ∈ rs, 1 ≤ x.2.1) → iq rs f k = false → kO (fR rs (fQ rs f) (f, k, w))
 | [], f, k, w, _, _, _ => List.pairwise_singleton _ _
 | x :: l, f, k, w, hs, hp, hm => by
  obtain ⟨h1, h2⟩ := List.pairwise_cons.1 hs
  have hx := hp x (by simp)
  rw [vq] at hm
  rw [vr]
  by_cases q : x.1 + x.2.1 ≤ f
  rw [if_pos q] at hm ⊢
  refine List.pairwise_cons.2 ⟨fun y hy => ?_, vv h2 (fun y hy => hp y (by simp [hy])) hm⟩
  rcases AS hy with rfl | hy
  exact q
  exact h1 y hy
  rw [if_neg q] at hm ⊢
  have hm := of_decide_eq_false hm
  refine List.pairwise_cons.2 ⟨fun y hy => ?_, hs⟩
  rcases List.mem_cons.1 hy with rfl | hy
  show f + k ≤ _; omega
  have := h1 y hy
  show f + k ≤ _; omega
theorem vw {rs : List Rn} {n f k w : Int} (h : kO rs) (hp : ∀ x ∈ rs, 1 ≤ x.2.1) : kO (eh rs n f k w) := by
 unfold eh; split
 rename_i he
 unfold dB at he
 split at he
 exact absurd he (by decide)
 split at he
 exact absurd he (by decide)
 rename_i q; exact vv h hp (by simpa using q)
 exact h
structure RT (rs : List Rn) (L : List Int) : Prop where
  at_ : ∀ i : Nat, i < L.length → L.getD i (-1) = (f5 rs i).getD (-1)
  s : kO rs
  ok : j5 rs
def f6 (L : List Int) (f k w : Int) : Int := if f < 0 ∨ k < 1 ∨ (L.length : Int) < f ∨ L.length - f < k ∨ w < 0 ∨ 64 ≤ w then 1 else if (List.range k.toNat).any (fun i => decide (0 ≤ L.getD (f.toNat + i) (-1))) then 5 else 0
def gH (L : List Int) (f k w : Int) : List Int := if f6 L f k w = 0 then (List.range L.length).map fun (i : Nat) => if f ≤ i ∧ (i : Int) < f + k then w else L.getD i (-1) else L
theorem rJ {L : List Int} {f k w : Int} : (gH L f k w).length = L.length := by unfold gH; split <;> simp
theorem vx {rs : List Rn} (h : j5 rs) {i : Int} : 0 ≤ (f5 rs i).getD (-1) ↔ f5 rs i ≠ none := by
 cases e : f5 rs i with
 | none => simp
 | some w => have := AQ h e; simp; omega
theorem AT {rs : List Rn} {L : List Int} (h : RT rs L) {f k : Int} (hb : 0 ≤ f ∧ 1 ≤ k ∧ f + k ≤ L.length) : (List.range k.toNat).any (fun i => decide (0 ≤ L.getD (f.toNat + i) (-1))) = iq rs f k := by
 rw [Bool.eq_iff_iff, vt h.s (fun x hx => (h.ok x hx).2.1) hb.2.1, List.any_eq_true]
 constructor
 rintro ⟨i, hi, hd⟩
 have hi := List.mem_range.1 hi
 have hd := of_decide_eq_true hd
 rw [h.at_ _ (by omega)] at hd
 exact ⟨((f.toNat + i : Nat) : Int), by omega, by omega, (vx h.ok).1 hd⟩
 rintro ⟨i, a, b, c⟩
 refine ⟨(i - f).toNat, List.mem_range.2 (by omega), decide_eq_true ?_⟩
 rw [h.at_ _ (by omega), show ((f.toNat + (i - f).toNat : Nat) : Int) = i by omega]
 exact (vx h.ok).2 c
theorem rK {rs : List Rn} {L : List Int} (h : RT rs L) {n : Int} (hn : n = L.length) (f k w : Int) : f6 L f k w = dB rs n f k w := by
 unfold f6 dB
 rw [hn]
 by_cases q : f < 0 ∨ k < 1 ∨ (L.length : Int) < f ∨ L.length - f < k ∨ w < 0 ∨ 64 ≤ w
 rw [if_pos q, if_pos q]
 rw [if_neg q, if_neg q, AT h (by omega)]
theorem vy {rs : List Rn} {L : List Int} (h : RT rs L) {n : Int} (hn : n = L.length) (h64 : n ≤ 64) (f k w : Int) : RT (eh rs n f k w) (gH L f k w) := by
 refine ⟨fun i hi => ?_, vw h.s (fun x hx => (h.ok x hx).2.1), rI h.ok h64⟩
 rw [rJ] at hi
 unfold gH eh
 rw [rK h hn]
 by_cases q : dB rs n f k w = 0
 rw [if_pos q, if_pos q, vu]
 simp only [List.getD, List.getElem?_map, List.getElem?_range hi, Option.map_some, Option.getD_some]
 by_cases q2 : f ≤ (i : Int) ∧ (i : Int) < f + k
 rw [if_pos q2, if_pos q2]; rfl
 rw [if_neg q2, if_neg q2]; exact h.at_ i hi
 rw [if_neg q, if_neg q]; exact h.at_ i hi
theorem vz (n : Nat) : RT [] (List.replicate n (-1)) := ⟨fun i hi => by simp at hi; simp [List.getD, hi, f5], List.Pairwise.nil, fun x hx => by simp at hx⟩
section
variable {P : Program} {W0 : World} {N : FSz} {e : bQ} {A R : List HP} {t : TypeId} {v : Value} {x y : Operand} {l' ys : List Value}
theorem AU {E sz n c g j : Nat} [h : Tk (osl E sz) (.slice (some ⟨g, 0, none⟩) n c) A ys R] (hs : ∀ w, (sizeOf t).run P w = .ok 1 w) (hx : ev e x = some (.pointer (some ⟨g, j, none⟩))) (hy : ev e y = some v)
    (h1 : v.oneCell' = true) (hj : j < ys.length) (hl : ys.set j v = l') : dl P W0 N e A (.store t x y) (fun _ B => B = osl E sz (.slice (some ⟨g, 0, none⟩) n c) l' :: R) := by
 intro a w dst ty pos af gd K Q hF hO k
 rcases (hO.tk (r := osl E sz) (b := .slice (some ⟨g, 0, none⟩) n c)).osl with ⟨k1, _, _⟩ | ⟨g', n', cap, sp, k1, k2, k3, k4, k5, k6⟩
 cases k1
 cases k1
 refine cm (b := g) (l := ys ++ sp) hs hx hy h1 (by rw [List.length_append]; omega) rfl a w dst ty pos af gd K Q hF k6 fun v' w' B hp hO' => ?_
 subst hp
 refine k v' w' _ rfl (hO'.ent ?_)
 have e1 : (ys ++ sp).set j v = l' ++ sp := by rw [List.set_append_left _ _ hj, hl]
 rw [e1]
 exact fa k2 k3 (by rw [← hl, List.length_set]; exact k4) (by rw [← hl, List.length_append, List.length_set, ← List.length_append]; exact k5)
theorem dH {S : World → Prop} {E n c j sz o' b off : Nat} {k : IntKind} {i : Int} {a' : Option Addr} (hu : P.underlying t = some (.slice E)) (hs : ∀ w, (sizeOf E).run P w = .ok sz w) (hx : ev e x = some (.slice a' n c)) (ha : a' = some ⟨b, off, none⟩) (hy : ev e y = some (.int k i))
    (hi : i = (j : Int)) (hj : j < n) (ho : off + j * sz = o') : cC P S N e (.indexAddr t x y) (.pointer (some ⟨b, o', none⟩)) := by
 subst ha; exact ce hu hs hx hy hi hj ho
instance (priority := high) ent_nil {A : List HP} : Ent A [] := ⟨fun l _ => ⟨[], l, rfl, List.Perm.refl _⟩⟩
end
abbrev dd (c : Cfg) : Obj := ax (bU c) 29
def gr (c : Cfg) (i : Nat) : Rn := c.rl.getD i (0, 0, 0)
def eP (c : Cfg) : Nat → List Rn
 | 0 => []
 | i + 1 => if dK (gr c i).1 c.cats = true then eh (eP c i) 32 (gr c i).2.1 (gr c i).2.2 i else eP c i
theorem vA (c : Cfg) : ∀ i, j5 (eP c i) ∧ (eP c i).length ≤ i ∧ kO (eP c i)
 | 0 => ⟨fun x hx => by simp [eP] at hx, Nat.le_refl _, List.Pairwise.nil⟩
 | i + 1 => by
  obtain ⟨h1, h2, h3⟩ := vA c i
  rw [eP]; split
  exact ⟨rI h1 (by decide), Nat.le_trans vo (by omega), vw h3 fun x hx => (h1 x hx).2.1⟩
  exact ⟨h1, by omega, h3⟩
def j6 (c : Cfg) (i : Nat) : Bool := !(dK (gr c i).1 c.cats && decide (dB (eP c i) 32 (gr c i).2.1 (gr c i).2.2 i = 0))
theorem AV (W0 : World) (b1 b4 bt : Nat) (c : Cfg) (hl : c.rl.length ≤ 8) (hs : ∀ A, cF (bK W0 A) c.ra 3 dS c.rl) :
    WF W0 248 [.pointer (some ⟨b1, 0, none⟩), .pointer (some ⟨b4, 0, none⟩)] c.rl.length (fun i => bB [pt b1 (dd c), pt b4 (ax [.pointer (some ⟨bt, 0, none⟩)] 410), gR bt (eP c i, 32)]) (j6 c) := ⟨call248, fun i hi R => by
 refine lJ ?_
 simp only [List.cons_append, List.nil_append]
 obtain ⟨g, o, hra, hc⟩ := (hs (pt b1 (dd c) :: R)).at_ hi
 obtain ⟨x, hx⟩ : ∃ x, c.rl[i] = x := ⟨_, rfl⟩
 have hA : gr c i = x := by simp [gr, List.getD, hi, hx]
 rw [hx] at hc
 obtain ⟨h1, h2, h3⟩ := vA c i
 have hT : eP c (i + 1) = if dK x.1 c.cats = true then eh (eP c i) 32 x.2.1 x.2.2 i else eP c i := by rw [eP, hA]
 have hW : j6 c i = !(dK x.1 c.cats && decide (dB (eP c i) 32 x.2.1 x.2.2 i = 0)) := by rw [j6, hA]
 rw [hT, hW]
 generalize eP c i = T at h1 h2 h3 ⊢
 refine aG func248 ntmps248 rfl rfl ?_
 refine ae (ah (aa rfl (ai rfl) (ag (ab (ae (ah ?_))))))
 refine aa rfl (al rfl bw rfl iU rfl (by first | exact Nat.zero_add _ | rfl)) ?_
 refine aa rfl (ao ki rfl (aA rfl)) ?_
 refine aa rfl (ac rfl) ?_
 refine aa rfl (dH gi iB rfl hra rfl rfl hi (by first | exact Nat.zero_add _ | rfl)) ?_
 refine aa rfl (cV xJ iB rfl hc.weak rfl) ?_
 refine am rfl (cM pL) ?_
 rintro _ _ ⟨bx, rfl, rfl⟩
 refine bD (cD iB rfl rfl rfl rfl rfl) ?_
 rintro _ _ rfl
 refine ag (ab (ae (ah ?_)))
 refine aa rfl (al rfl ie rfl az rfl (by first | exact Nat.zero_add _ | rfl)) ?_
 refine aa rfl (ao aQ rfl (aA rfl)) ?_
 refine aa rfl (al rfl bw rfl az rfl (by first | exact Nat.zero_add _ | rfl)) ?_
 refine aa rfl (ao aQ rfl (aA rfl)) ?_
 refine am rfl (aU xG rfl (rz x.1 c.cats)) ?_
 rintro _ B_ ⟨rfl, hB_⟩
 obtain rfl := hB_.symm
 refine aa rfl (bM rfl) (aa rfl (ac rfl) ?_)
 refine bC rfl rfl rfl ?_ ?_
 intro g2_7
 have hv : dK x.1 c.cats = false := by first | exact g2_7 | simpa using g2_7
 rw [hv]
 refine ap rfl rfl rfl rfl (ap rfl rfl rfl rfl (ap rfl rfl rfl rfl (ap rfl rfl rfl rfl (ap rfl rfl rfl rfl (ap rfl rfl rfl rfl (ap rfl rfl rfl rfl (aa rfl (aY rfl rfl) (aa rfl (ai rfl) (ag (ab (av (au (.inl rfl) (.cons (ak rfl) .nil) ?_))))))))))))
 refine ⟨_, ⟨?_, rfl⟩, ?_⟩
 refine congrArg Value.bool ?_
 first
   | rfl
   | (rw [Bool.true_and, bne, Bool.eq_iff_iff]; simp)
 first
   | (rw [if_pos rfl]; exact inferInstance)
   | (rw [if_neg (by decide)]; exact inferInstance)
 intro g2_7
 have hv : dK x.1 c.cats = true := by first | exact g2_7 | simpa using g2_7
 rw [hv]
 refine aa rfl (ao isAgg410 rfl (aA rfl)) ?_
 refine ar rfl rfl ?_
 refine aa rfl (al rfl ie rfl az rfl (by first | exact Nat.zero_add _ | rfl)) ?_
 refine ar rfl rfl (aa rfl (ao aQ rfl (aA rfl)) ?_)
 refine ar rfl rfl ?_
 refine aa rfl (al rfl ie rfl az rfl (by first | exact Nat.zero_add _ | rfl)) ?_
 refine ar rfl rfl (aa rfl (ao aQ rfl (aA rfl)) ?_)
 refine ar rfl rfl (aa rfl (ac rfl) (ar rfl rfl ?_))
 refine am rfl (bn call249 rfl (vp W0 _ bt T 32 (by decide) h1 (by omega) x.2.1 x.2.2 i)) ?_
 rintro _ B_ ⟨rfl, hB_⟩
 obtain rfl := hB_.symm
 refine ar rfl rfl (aa rfl (bI rfl rfl) (aa rfl (aM rfl rfl) (aa rfl (ai rfl) (ag (ab (av (au (.inl rfl) (.cons (ak rfl) .nil) ?_)))))))
 refine ⟨_, ⟨?_, rfl⟩, ?_⟩
 refine congrArg Value.bool ?_
 first
   | rfl
   | (rw [Bool.true_and, bne, Bool.eq_iff_iff]; simp)
 first
   | (rw [if_pos rfl]; exact inferInstance)
   | (rw [if_neg (by decide)]; exact inferInstance)
 ⟩
def gt (c : Cfg) : Bool := decide (8 < c.rl.length) || gQ (j6 c) c.rl.length
theorem AW (W0 : World) (R : List HP) (c : Cfg) (hs : ∀ A, cF (bK W0 A) c.ra 3 dS c.rl) :
    aC Tryz.prog W0 114 [.agg (bU c).toArray] R (fun v B => ∃ r, v = .tuple #[.int .i64 r, .bool (gt c)] ∧ B = R) := by
 refine aG func114 ntmps114 rfl rfl ?_
 refine ae (ah (am rfl (bJ rfl) ?_))
 rintro _ _ ⟨b1, rfl, rfl⟩
 refine aa rfl (ai rfl) (aa rfl (ai rfl) (ag (ab (ae (ae (ah ?_))))))
 refine aa rfl (al rfl bw rfl iU rfl (by first | exact Nat.zero_add _ | rfl)) ?_
 refine aa rfl (ao ki rfl (aA rfl)) ?_
 refine aa rfl (bu gi rfl) (aa rfl (cy rfl rfl) (ag (ab ?_)))
 refine aw rfl ?_ ?_
 intro c1
 refine ae (ah (aa rfl (ai rfl) (aa rfl (ai rfl) (ag (ab (av (aE (au (.inl rfl) (.cons (ak rfl) (.cons (ak rfl) .nil)) ?_))))))))
 rw [gt, decide_eq_true (by omega), Bool.true_or]
 exact ⟨_, ⟨0, rfl, rfl⟩, inferInstance⟩
 intro c1
 refine aB (ab (ae (ah ?_)))
 refine am rfl (aU call247 rfl (vn 32 (by decide))) ?_
 rintro _ B_ ⟨bt, rfl, hB_⟩
 obtain rfl := hB_.symm
 refine aa rfl (ac rfl) (aa rfl (aS rfl rfl) (aa rfl (aS rfl rfl) (am rfl (oe zeroValue410 rfl) ?_)))
 rintro _ _ ⟨b4, rfl, rfl⟩
 refine bD (cm xK rfl rfl rfl (Nat.le_of_ble_eq_true rfl) SetL.eq) ?_
 rintro _ _ rfl
 refine aa rfl (ai rfl) (ag (ab (ae (f9 (B := kH 0 (bB [pt b1 (dd c), pt b4 (ax [.pointer (some ⟨bt, 0, none⟩)] 410), gR bt ([], 32)]) :: R) inferInstance ?_))))
 refine zQ ?_
 simp only [List.cons_append, List.nil_append]
 refine ah ?_
 refine aa rfl (al rfl bw rfl iU rfl (by first | exact Nat.zero_add _ | rfl)) ?_
 refine aa rfl (ao ki rfl (aA rfl)) ?_
 refine aa rfl (bu gi rfl) (aa rfl (ip rfl rfl) ?_)
 refine am rfl (yY (B := kH 0 (bB [pt b1 (dd c), pt b4 (ax [.pointer (some ⟨bt, 0, none⟩)] 410), gR bt ([], 32)]) :: R) inferInstance (aU pK rfl (vk W0 R 248 [.pointer (some ⟨b1, 0, none⟩), .pointer (some ⟨b4, 0, none⟩)] c.rl.length (fun i => bB [pt b1 (dd c), pt b4 (ax [.pointer (some ⟨bt, 0, none⟩)] 410), gR bt (eP c i, 32)]) (j6 c) (AV W0 b1 b4 bt c (by omega) hs) (by omega)))) ?_
 rintro _ B_ ⟨r, rfl, hB_⟩
 obtain rfl := hB_.symm
 refine aa rfl (aS rfl rfl) (aa rfl (aS rfl rfl) (aa rfl (ai rfl) (aa rfl (ai rfl) (ag (ab (av (au (.inl rfl) (.cons (ak rfl) (.cons (ak rfl) .nil)) ?_)))))))
 rw [gt, decide_eq_false (by omega), Bool.false_or]
 exact ⟨_, ⟨r, rfl, rfl⟩, inferInstance⟩
def i6 (c : Cfg) (g : Int) (k : Nat) : Bool := (c.pl.take k).any fun q => decide (q.2 = g)
theorem AX (W0 : World) (R : List HP) (c : Cfg) (g : Int) (k : Nat) (hk : k < c.pl.length) (hl : c.pl.length ≤ 8) (hcap : c.pl.length ≤ c.pc) (hs : ∀ A, cF (bK W0 A) c.pa 2 dj c.pl) :
    aC Tryz.prog W0 252 [.agg (bU c).toArray, .int .i64 g, .int .i64 k] R (fun v B => v = .bool (i6 c g k) ∧ B = R) := by
 refine aG func252 ntmps252 rfl rfl ?_
 refine ae (ah (am rfl (bJ rfl) ?_))
 rintro _ _ ⟨b1, rfl, rfl⟩
 refine aa rfl (ai rfl) (ag (ab (ae (ae (ah ?_)))))
 refine aa rfl (al rfl bw rfl fX rfl (by first | exact Nat.zero_add _ | rfl)) ?_
 refine aa rfl (ao iC rfl (aA rfl)) ?_
 refine aa rfl (ac rfl) ?_
 refine aa rfl (kB f8 fe rfl rfl (h := k) rfl (by omega)) ?_
 refine aa rfl (bu f8 rfl) (aa rfl (ac rfl) (ag (ab (aW ?_))))
 refine cT (fun i : Nat => i ≤ k ∧ ∀ j, j < i → (c.pl.getD j (0, 0)).2 ≠ g) (fun i => [(1, .int .i64 g), (12, .slice c.pa k c.pc), (13, .int .i64 k), (14, .int .i64 i)]) (fun _ => R) (fun i => k - i) 0 ?_ ?_ ?_ ?_
 exact ⟨Nat.zero_le _, fun j hj => absurd hj (Nat.not_lt_zero _)⟩
 · repeat (first | exact aX | refine aV rfl ?_)
 exact inferInstance
 intro i ⟨hi, hI⟩
 refine ae (ah (aa rfl (b0 rfl rfl) (ag (ab (ae ?_)))))
 refine aw rfl ?_ ?_
 intro c2
 refine aB (ab (ae (aW (ae ?_))))
 have hi1 : i < c.pl.length := by omega
 have hik : i < k := by omega
 obtain ⟨gp, o, hpa, hc⟩ := (hs R).at_ hi1
 obtain ⟨x, hx⟩ : ∃ x, c.pl[i] = x := ⟨_, rfl⟩
 have hgd : c.pl.getD i (0, 0) = x := by simp [List.getD, hi1, hx]
 rw [hx] at hc
 refine ah ?_
 refine aa rfl (dH f8 fe rfl hpa rfl rfl hik (by first | exact Nat.zero_add _ | rfl)) ?_
 refine aa rfl (cV nF fe rfl hc.weak rfl) ?_
 refine am rfl (cM ke) ?_
 rintro _ _ ⟨bx, rfl, rfl⟩
 refine bD (cD fe rfl rfl rfl rfl rfl) ?_
 rintro _ _ rfl
 refine ag (ab (ae (ah ?_)))
 refine aa rfl (al rfl eG rfl az rfl (by first | exact Nat.zero_add _ | rfl)) ?_
 refine aa rfl (ao aQ rfl (aA rfl)) ?_
 refine aa rfl (ac rfl) (aa rfl (cu rfl rfl) (ag (ab ?_)))
 refine aw rfl ?_ ?_
 intro c4
 refine ae (ah (aa rfl (ai rfl) (ag (ab (av (bj (aE (aE (bj (aE (au (.inl rfl) (.cons (ak rfl) .nil) ?_)))))))))))
 have ht : i6 c g k = true := by
  rw [i6, List.any_eq_true]
  exact ⟨x, by rw [← hx]; exact List.mem_take_iff_getElem.2 ⟨i, by omega, rfl⟩, decide_eq_true c4⟩
 rw [ht]
 exact ⟨_, ⟨rfl, rfl⟩, inferInstance⟩
 intro c4
 refine aB (bH (ab (ah ?_)))
 refine aa rfl (bF rfl rfl (by first | exact aZ (by omega) | rfl)) ?_
 refine aa rfl (ac rfl) (ag (ab ?_))
 refine cG (i + 1) ?_ ?_ ?_ ?_
 refine ⟨by omega, fun j hj => ?_⟩
 rcases Nat.lt_or_ge j i with q | q
 exact hI j q
 rw [show j = i by omega, hgd]; exact c4
 omega
 · repeat (first | exact aX | refine aV rfl ?_)
 exact inferInstance
 intro c2
 refine cj (bi (bi (co (ab (ae (ah (aa rfl (ai rfl) (ag (ab (av (au (.inl rfl) (.cons (ak rfl) .nil) ?_)))))))))))
 have ht : i6 c g k = false := by
  rw [i6, List.any_eq_false]
  intro x hx
  obtain ⟨j, hj, rfl⟩ := List.mem_take_iff_getElem.1 hx
  have := hI j (by omega)
  rw [show c.pl.getD j (0, 0) = c.pl[j]'(by omega) by simp [List.getD, show j < c.pl.length by omega]] at this
  simpa using this
 rw [ht]
 exact ⟨_, ⟨rfl, rfl⟩, inferInstance⟩
def j7 (c : Cfg) (i : Nat) : Bool := !dK (c.pl.getD i (0, 0)).1 c.cats || (decide ((c.pl.getD i (0, 0)).2 ≠ -1) && (!e8 c (c.pl.getD i (0, 0)).2 || decide ((c.pl.getD i (0, 0)).1 ≠ fy c (c.pl.getD i (0, 0)).2) || i6 c (c.pl.getD i (0, 0)).2 i))
theorem AY (W0 : World) (b1 : Nat) (c : Cfg) (hl : c.pl.length ≤ 8) (hcap : c.pl.length ≤ c.pc) (hs : ∀ A, cF (bK W0 A) c.pa 2 dj c.pl) (hgs : ∀ A, cF (bK W0 A) c.ga 3 dS c.gl) :
    WF W0 250 [.pointer (some ⟨b1, 0, none⟩)] c.pl.length (fun _ => bB [pt b1 (dd c)]) (j7 c) := ⟨call250, fun i hi R => by
 refine lJ ?_
 simp only [List.cons_append, List.nil_append]
 obtain ⟨g, o, hpa, hc⟩ := (hs (pt b1 (dd c) :: R)).at_ hi
 obtain ⟨⟨p, q⟩, hx⟩ : ∃ x, c.pl[i] = x := ⟨_, rfl⟩
 have hgd : c.pl.getD i (0, 0) = (p, q) := by simp [List.getD, hi, hx]
 have hW : j7 c i = (!dK p c.cats || (decide (q ≠ -1) && (!e8 c q || decide (p ≠ fy c q) || i6 c q i))) := by rw [j7, hgd]
 rw [hx] at hc
 rw [hW]
 have hrow : ∃ (gg og j : Nat) (vs : List Value), (∀ A, cY (bK W0 A) gg (og + j * 3) vs) ∧ (e8 c q = true → c.ga = some ⟨gg, og, none⟩ ∧ q = (j : Int) ∧ j < c.gl.length ∧ ∃ u : Int × Int × Int, vs = dS u ∧ fy c q = u.1) := by
  cases hG : e8 c q with
  | false => exact ⟨0, 0, 0, [], fun A k v hk => by simp at hk, fun h => by cases h⟩
  | true =>
   have hb : 0 ≤ q ∧ q < c.gl.length := of_decide_eq_true hG
   obtain ⟨j, rfl⟩ : ∃ j : Nat, q = (j : Int) := ⟨q.toNat, by omega⟩
   have hj : j < c.gl.length := by omega
   obtain ⟨gg, og, hga, _⟩ := (hgs []).at_ hj
   refine ⟨gg, og, j, dS c.gl[j], fun A => ?_, fun _ => ⟨hga, rfl, hj, c.gl[j], rfl, ?_⟩⟩
   obtain ⟨g2, o2, h2, hc2⟩ := (hgs A).at_ hj
   rw [hga] at h2; cases h2; exact hc2
   rw [fy, Int.toNat_natCast]; simp [List.getD, hj]
 obtain ⟨gg, og, j, vs, hcv, hrw⟩ := hrow
 obtain ⟨w, hw⟩ : ∃ w, e8 c q = w := ⟨_, rfl⟩
 rw [hw] at hrw ⊢
 refine aG func250 ntmps250 rfl rfl ?_
 refine ae (ah (aa rfl (ai rfl) (ag (ab (ae (ah ?_))))))
 refine aa rfl (al rfl bw rfl fX rfl (by first | exact Nat.zero_add _ | rfl)) ?_
 refine aa rfl (ao iC rfl (aA rfl)) ?_
 refine aa rfl (ac rfl) ?_
 refine aa rfl (dH f8 fe rfl hpa rfl rfl hi (by first | exact Nat.zero_add _ | rfl)) ?_
 refine aa rfl (cV nF fe rfl hc.weak rfl) ?_
 refine am rfl (cM ke) ?_
 rintro _ _ ⟨bx, rfl, rfl⟩
 refine bD (cD fe rfl rfl rfl rfl rfl) ?_
 rintro _ _ rfl
 refine ag (ab (ae (aW (ae (ah ?_)))))
 refine aa rfl (al rfl eG rfl az rfl (by first | exact Nat.zero_add _ | rfl)) ?_
 refine aa rfl (ao aQ rfl (aA rfl)) ?_
 refine aa rfl (al rfl bw rfl az rfl (by first | exact Nat.zero_add _ | rfl)) ?_
 refine aa rfl (ao aQ rfl (aA rfl)) ?_
 refine am rfl (aU xG rfl (rz p c.cats)) ?_
 rintro _ B_ ⟨rfl, hB_⟩
 obtain rfl := hB_.symm
 refine aa rfl (bM rfl) (aa rfl (ai rfl) (ag (ab ?_)))
 refine aw rfl ?_ ?_
 intro c2
 refine ae (ah (aa rfl (ai rfl) (ag (ab (av (bj (aE (au (.inl rfl) (.cons (ak rfl) .nil) ?_))))))))
 have hv : dK p c.cats = false := by first | exact c2 | simpa using c2
 rw [hv]
 exact ⟨_, ⟨rfl, rfl⟩, inferInstance⟩
 intro c2
 have hv : dK p c.cats = true := by first | exact c2 | simpa using c2
 rw [hv]
 refine ae (ah ?_)
 refine aa rfl (al rfl eG rfl az rfl (by first | exact Nat.zero_add _ | rfl)) ?_
 refine aa rfl (ao aQ rfl (aA rfl)) ?_
 refine aa rfl (cu rfl rfl) (aa rfl (ai rfl) (ag (ab ?_)))
 refine aw rfl ?_ ?_
 intro c4
 refine ae (ah (aa rfl (ai rfl) (ag (ab (av (bj (aE (au (.inl rfl) (.cons (ak rfl) .nil) ?_))))))))
 rw [decide_eq_false (by omega)]
 exact ⟨_, ⟨rfl, rfl⟩, inferInstance⟩
 intro c4
 refine ae (ah (aa rfl (cp cn bN rfl rfl) ?_))
 refine aa rfl (al rfl eG rfl az rfl (by first | exact Nat.zero_add _ | rfl)) ?_
 refine aa rfl (ao aQ rfl (aA rfl)) ?_
 refine am rfl (aU me rfl (kN c q)) ?_
 rintro _ B_ ⟨rfl, hB_⟩
 obtain rfl := hB_.symm
 rw [hw]
 refine aa rfl (bM rfl) (aa rfl (ai rfl) (ag (ab ?_)))
 refine aw rfl ?_ ?_
 intro c6
 refine ae (ah (aa rfl (ai rfl) (ag (ab (av (bj (aE (au (.inl rfl) (.cons (ak rfl) .nil) ?_))))))))
 have hw0 : w = false := by first | exact c6 | simpa using c6
 rw [hw0, decide_eq_true (by omega)]
 exact ⟨_, ⟨rfl, rfl⟩, inferInstance⟩
 intro c6
 obtain rfl : w = true := by first | exact c6 | simpa using c6
 obtain ⟨hga, hqj, hj, u, rfl, hlu⟩ := hrw rfl
 rw [hlu, decide_eq_true (by omega : q ≠ -1)]
 have hne : ¬ q = -1 := by omega
 refine aB (bH (ab (ae ?_)))
 refine cA [(b1, 0, bU c), (bx, 0, dj (p, q)), (gg, og + j * 3, dS u)] 18 cz rfl (aK (aK (cW (hcv _) aJ))) (fun hS => ?_)
 refine aj 0 rfl rfl (by kernel_rfl) (by kernel_rfl) (by kernel_rfl) rfl hS (al rfl eG rfl az rfl (by first | exact Nat.zero_add _ | rfl)) ?_
 refine aj 1 rfl rfl (by kernel_rfl) (by kernel_rfl) (by kernel_rfl) rfl hS (ao aQ rfl (by first | exact aD (k := 0) rfl rfl | exact aD (k := 1) rfl rfl | exact aD (k := 2) rfl rfl | exact aD (k := 3) rfl rfl)) ?_
 refine aj 2 rfl rfl (by kernel_rfl) (by kernel_rfl) (by kernel_rfl) rfl hS (al rfl bw rfl dD rfl (by first | exact Nat.zero_add _ | rfl)) ?_
 refine aj 3 rfl rfl (by kernel_rfl) (by kernel_rfl) (by kernel_rfl) rfl hS (ao dN rfl (by first | exact aD (k := 0) rfl rfl | exact aD (k := 1) rfl rfl | exact aD (k := 2) rfl rfl | exact aD (k := 3) rfl rfl)) ?_
 refine aj 4 rfl rfl (by kernel_rfl) (by kernel_rfl) (by kernel_rfl) rfl hS (al rfl eG rfl az rfl (by first | exact Nat.zero_add _ | rfl)) ?_
 refine aj 5 rfl rfl (by kernel_rfl) (by kernel_rfl) (by kernel_rfl) rfl hS (ao aQ rfl (by first | exact aD (k := 0) rfl rfl | exact aD (k := 1) rfl rfl | exact aD (k := 2) rfl rfl | exact aD (k := 3) rfl rfl)) ?_
 refine aj 6 rfl rfl (by kernel_rfl) (by kernel_rfl) (by kernel_rfl) rfl hS (dH dq eH rfl hga rfl hqj hj (by first | exact Nat.zero_add _ | rfl)) ?_
 refine aj 7 rfl rfl (by kernel_rfl) (by kernel_rfl) (by kernel_rfl) rfl hS (al rfl dV rfl az rfl (by first | exact Nat.zero_add _ | rfl)) ?_
 refine aj 8 rfl rfl (by kernel_rfl) (by kernel_rfl) (by kernel_rfl) rfl hS (ao aQ rfl (fv (k := 2) (j := 0) rfl rfl)) ?_
 refine aj 9 rfl rfl (by kernel_rfl) (by kernel_rfl) (by kernel_rfl) rfl hS (bI rfl rfl) ?_
 refine aj 10 rfl rfl (by kernel_rfl) (by kernel_rfl) (by kernel_rfl) rfl hS (ac rfl) ?_
 refine jy (t := 37) rfl ?_ ?_
 intro g8_11
 refine bz 11 rfl rfl (by kernel_rfl) (by kernel_rfl) (by kernel_rfl) rfl hS ?_
 refine bz 12 rfl rfl (by kernel_rfl) (by kernel_rfl) (by kernel_rfl) rfl hS ?_
 refine bz 13 rfl rfl (by kernel_rfl) (by kernel_rfl) (by kernel_rfl) rfl hS ?_
 refine bz 14 rfl rfl (by kernel_rfl) (by kernel_rfl) (by kernel_rfl) rfl hS ?_
 refine bz 15 rfl rfl (by kernel_rfl) (by kernel_rfl) (by kernel_rfl) rfl hS ?_
 refine aj 16 rfl rfl (by kernel_rfl) (by kernel_rfl) (by kernel_rfl) rfl hS (aY rfl rfl) ?_
 refine aj 17 rfl rfl (by kernel_rfl) (by kernel_rfl) (by kernel_rfl) rfl hS (ai rfl) ?_
 refine bL (by kernel_rfl) ?_; clear hS
 refine ab (av (au (.inl rfl) (.cons (ak rfl) .nil) ?_))
 refine ⟨_, ⟨?_, rfl⟩, inferInstance⟩
 refine congrArg Value.bool ?_
 rw [Bool.eq_iff_iff]
 simp_all
 intro g8_11
 refine aj 11 rfl rfl (by kernel_rfl) (by kernel_rfl) (by kernel_rfl) rfl hS (cV cn bN rfl (by first | exact dm (k := 0) rfl | exact dm (k := 1) rfl | exact dm (k := 2) rfl | exact dm (k := 3) rfl) rfl) ?_
 refine aj 12 rfl rfl (by kernel_rfl) (by kernel_rfl) (by kernel_rfl) rfl hS (al rfl eG rfl az rfl (by first | exact Nat.zero_add _ | rfl)) ?_
 refine aj 13 rfl rfl (by kernel_rfl) (by kernel_rfl) (by kernel_rfl) rfl hS (ao aQ rfl (by first | exact aD (k := 0) rfl rfl | exact aD (k := 1) rfl rfl | exact aD (k := 2) rfl rfl | exact aD (k := 3) rfl rfl)) ?_
 refine aj 14 rfl rfl (by kernel_rfl) (by kernel_rfl) (by kernel_rfl) rfl hS (ac rfl) ?_
 refine bA 15 (by kernel_rfl) rfl rfl (aU call252 rfl (AX W0 _ c q i hi hl hcap hs)) rfl ?_; clear hS
 rintro _ B_ ⟨rfl, hB_⟩
 obtain rfl := hB_.symm
 refine ⟨(aK (aK (cW (hcv _) aJ))), fun hS => ?_⟩
 refine aj 16 rfl rfl (by kernel_rfl) (by kernel_rfl) (by kernel_rfl) rfl hS (aM rfl rfl) ?_
 refine aj 17 rfl rfl (by kernel_rfl) (by kernel_rfl) (by kernel_rfl) rfl hS (ai rfl) ?_
 refine bL (by kernel_rfl) ?_; clear hS
 refine ab (av (au (.inl rfl) (.cons (ak rfl) .nil) ?_))
 refine ⟨_, ⟨?_, rfl⟩, inferInstance⟩
 refine congrArg Value.bool ?_
 rw [Bool.eq_iff_iff]
 simp_all
 ⟩
def i7 (c : Cfg) : Bool := decide (8 < c.pl.length) || gQ (j7 c) c.pl.length
theorem AZ (W0 : World) (R : List HP) (c : Cfg) (hcap : c.pl.length ≤ c.pc) (hs : ∀ A, cF (bK W0 A) c.pa 2 dj c.pl) (hgs : ∀ A, cF (bK W0 A) c.ga 3 dS c.gl) :
    aC Tryz.prog W0 115 [.agg (bU c).toArray] R (fun v B => ∃ r, v = .tuple #[.int .i64 r, .bool (i7 c)] ∧ B = R) := by
 refine aG func115 ntmps115 rfl rfl ?_
 refine ae (ah (am rfl (bJ rfl) ?_))
 rintro _ _ ⟨b1, rfl, rfl⟩
 refine aa rfl (ai rfl) (aa rfl (ai rfl) (ag (ab (ae (ae (ah ?_))))))
 refine aa rfl (al rfl bw rfl fX rfl (by first | exact Nat.zero_add _ | rfl)) ?_
 refine aa rfl (ao iC rfl (aA rfl)) ?_
 refine aa rfl (bu f8 rfl) (aa rfl (cy rfl rfl) (ag (ab ?_)))
 refine aw rfl ?_ ?_
 intro c1
 refine ae (ah (aa rfl (ai rfl) (aa rfl (ai rfl) (ag (ab (av (aE (au (.inl rfl) (.cons (ak rfl) (.cons (ak rfl) .nil)) ?_))))))))
 rw [i7, decide_eq_true (by omega), Bool.true_or]
 exact ⟨_, ⟨0, rfl, rfl⟩, inferInstance⟩
 intro c1
 refine aB (ab (ae (ah ?_)))
 refine aa rfl (al rfl bw rfl fX rfl (by first | exact Nat.zero_add _ | rfl)) ?_
 refine aa rfl (ao iC rfl (aA rfl)) ?_
 refine aa rfl (bu f8 rfl) (aa rfl (ip rfl rfl) ?_)
 refine am rfl (bn pK rfl (oQ W0 _ 250 [.pointer (some ⟨b1, 0, none⟩)] c.pl.length b1 _ (j7 c) (AY W0 b1 c (by omega) hcap hs hgs) (by omega))) ?_
 rintro _ B_ ⟨r, rfl, hB_⟩
 obtain rfl := hB_.symm
 refine aa rfl (aS rfl rfl) (aa rfl (aS rfl rfl) (aa rfl (ai rfl) (aa rfl (ai rfl) (ag (ab (av (au (.inl rfl) (.cons (ak rfl) (.cons (ak rfl) .nil)) ?_)))))))
 rw [i7, decide_eq_false (by omega), Bool.false_or]
 exact ⟨_, ⟨r, rfl, rfl⟩, inferInstance⟩
structure CfOk (W0 : World) (c : Cfg) : Prop where
  g : ∀ A, cF (bK W0 A) c.ga 3 dS c.gl
  r : ∀ A, cF (bK W0 A) c.ra 3 dS c.rl
  p : ∀ A, cF (bK W0 A) c.pa 2 dj c.pl
  n : ∀ A, cF (bK W0 A) c.na 2 dj c.nl
  s : ∀ A, cF (bK W0 A) c.sa 2 dj c.sl
  pc : c.pl.length ≤ c.pc
def B1 (W0 : World) (c : Cfg) (C : HP) (l : List (Value × Int × Bool)) : Prop := ∀ x ∈ l, ∃ fn cs, x.1 = .func (.func fn) #[] cs.toArray ∧ (∀ args w, (callFunc fn args).run Tryz.prog w = .ok (.enter fn args) w) ∧
  ∀ R, aC Tryz.prog W0 fn ([] ++ [.agg (bU c).toArray] ++ cs) (kH 0 C :: R) (fun v B => ∃ r, v = .tuple #[.int .i64 r, .bool x.2.2] ∧ B = kH 0 C :: R)
def ir : List (Value × Int × Bool) → Int
 | [] => 0
 | x :: t => if x.2.2 then x.2.1 else ir t
theorem vB : ∀ (l : List (Value × Int × Bool)) (i : Nat) (hi : i < l.length), (∀ j (hj : j < l.length), j < i → l[j].2.2 = false) → l[i].2.2 = true → ir l = l[i].2.1
 | x :: t, 0, _, _, h => by rw [ir, if_pos (by simpa using h)]; rfl
 | x :: t, i + 1, hi, h1, h2 => by
  have h0 := h1 0 (by simp) (by omega)
  rw [ir, if_neg (by simpa using h0), vB t i (by simpa using hi) (fun j hj hji => by
   have := h1 (j + 1) (by simpa using hj) (by omega)
   simpa using this) (by simpa using h2)]
  simp
theorem vC : ∀ (l : List (Value × Int × Bool)), (∀ j (hj : j < l.length), l[j].2.2 = false) → ir l = 0
 | [], _ => rfl
 | x :: t, h => by
  have h0 := h 0 (by simp)
  rw [ir, if_neg (by simpa using h0), vC t (fun j hj => by
   have := h (j + 1) (by simpa using hj)
   simpa using this)]
def lN (x : Value × Int × Bool) : List Value := [x.1, .int .i64 x.2.1]
def eA (c : Cfg) (bg : Nat) : List (Value × Int × Bool) := [(.func (.func 113) #[] #[], 13, fw c), (.func (.func 114) #[] #[], 14, gt c), (.func (.func 115) #[] #[], 15, i7 c), (.func (.func 116) #[] #[], 16, f3 c), (.func (.func 117) #[] #[], 17, i5 c), (.func (.func 112) #[] #[.pointer (some ⟨bg, 0, none⟩)], 18, gn c)]
theorem B2 (W0 : World) (R : List HP) (bg : Nat) (x : Bool) (c : Cfg) : aC Tryz.prog W0 112 [.agg (bU c).toArray, .pointer (some ⟨bg, 0, none⟩)] (pt bg (ax [.bool x] 4) :: R) (fun v B => v = .tuple #[.int .i64 0, .bool x] ∧ B = pt bg (ax [.bool x] 4) :: R) := by
 refine aG func112 ntmps112 rfl rfl ?_
 refine ae (ah (am rfl (bJ rfl) ?_))
 rintro _ _ ⟨b2, rfl, rfl⟩
 refine aa rfl (ai rfl) (aa rfl (ai rfl) (ag (ab (ae ?_))))
 refine cA [(bg, 0, _)] 3 cz rfl (aK aJ) (fun hS => ?_)
 refine aj 0 rfl rfl (by kernel_rfl) (by kernel_rfl) (by kernel_rfl) rfl hS (ao fM rfl (aD (k := 0) rfl rfl)) ?_
 refine aj 1 rfl rfl (by kernel_rfl) (by kernel_rfl) (by kernel_rfl) rfl hS (ai rfl) ?_
 refine aj 2 rfl rfl (by kernel_rfl) (by kernel_rfl) (by kernel_rfl) rfl hS (ai rfl) ?_
 refine bL (by kernel_rfl) ?_; clear hS
 refine ab (av (au (.inl rfl) (.cons (ak rfl) (.cons (ak rfl) .nil)) ?_))
 exact ⟨_, ⟨rfl, rfl⟩, inferInstance⟩
theorem B3 (x : Bool) : aC Tryz.prog W0 111 [.bool x] R (fun v B => ∃ bg, v = .func (.func 112) #[] #[.pointer (some ⟨bg, 0, none⟩)] ∧ B = pt bg (ax [.bool x] 4) :: R) := by
 refine aG func111 ntmps111 rfl rfl ?_
 refine ae (ah (am rfl (jM rfl rfl) ?_))
 rintro _ _ ⟨bg, rfl, rfl⟩
 refine aa rfl (ai rfl) (ag (ab (ae (ah (aa rfl (ip rfl rfl) ?_)))))
 refine aa rfl (ai rfl) (ag (ab (av (au (.inl rfl) (.cons (ak rfl) .nil) ?_))))
 exact ⟨_, ⟨bg, rfl, rfl⟩, inferInstance⟩
theorem B4 (W0 : World) (c : Cfg) (h : CfOk W0 c) (bg : Nat) : B1 W0 c (bB [pt bg (ax [.bool (gn c)] 4)]) (eA c bg) := by
 intro x hx
 simp only [eA, List.mem_cons, List.not_mem_nil, or_false] at hx
 rcases hx with rfl | rfl | rfl | rfl | rfl | rfl
 exact ⟨_, [], rfl, call113, fun R => Av W0 _ c h.g⟩
 exact ⟨_, [], rfl, call114, fun R => AW W0 _ c h.r⟩
 exact ⟨_, [], rfl, call115, fun R => AZ W0 _ c h.pc h.p h.g⟩
 exact ⟨_, [], rfl, call116, fun R => AA W0 _ c h.n h.g⟩
 exact ⟨_, [], rfl, call117, fun R => Ax W0 _ c h.s⟩
 exact ⟨_, [.pointer (some ⟨bg, 0, none⟩)], rfl, call112, fun R => lJ (ji (B2 W0 R bg (gn c) c) fun v B hB => by
  obtain ⟨rfl, rfl⟩ := hB
  exact ⟨_, ⟨0, rfl, rfl⟩, inferInstance⟩)⟩
def fT (c : Cfg) : Int := if c.cats < 0 ∨ 8 < c.cats then 12 else if fw c then 13 else if gt c then 14 else if i7 c then 15 else if f3 c then 16 else if i5 c then 17 else if gn c then 18 else if 32 < dA c c.gl.length then 19 else 0
theorem B5 (c : Cfg) (bg : Nat) (h : ¬ (c.cats < 0 ∨ 8 < c.cats)) : fT c = if ir (eA c bg) = 0 ∧ 32 < dA c c.gl.length then 19 else ir (eA c bg) := by
 rw [fT, if_neg h]
 simp only [eA, ir]
 generalize fw c = a1; generalize gt c = a2; generalize i7 c = a3; generalize f3 c = a4; generalize i5 c = a5; generalize gn c = a6
 cases a1 <;> cases a2 <;> cases a3 <;> cases a4 <;> cases a5 <;> cases a6 <;> simp
theorem lO {w : Nat → Bool} {n i : Nat} (h : gQ w n = false) (hi : i < n) : w i = false := by
 rw [← Bool.not_eq_true]; intro q
 rw [lM hi q] at h; cases h
theorem lP {c : Cfg} (h : fw c = false) : 1 ≤ c.gl.length ∧ c.gl.length ≤ 4 ∧ ∀ g ∈ c.gl, dK g.1 c.cats = true ∧ 1 ≤ g.2.1 ∧ g.2.1 ≤ 8 ∧ 0 ≤ g.2.2 ∧ g.2.2 ≤ 8 - g.2.1 := by
 simp only [fw, Bool.or_eq_false_iff, decide_eq_false_iff_not] at h
 obtain ⟨h1, h2⟩ := h
 refine ⟨by omega, by omega, fun g hg => ?_⟩
 obtain ⟨i, hi, rfl⟩ := List.getElem_of_mem hg
 have := lO h2 hi
 rw [show c.gl.getD i (0, 0, 0) = c.gl[i] by simp [List.getD, hi]] at this
 exact n0.1 this
theorem rL {c : Cfg} (h : gt c = false) : c.rl.length ≤ 8 ∧ ∀ r ∈ c.rl, dK r.1 c.cats = true ∧ 0 ≤ r.2.1 ∧ 1 ≤ r.2.2 ∧ r.2.1 + r.2.2 ≤ 32 := by
 simp only [gt, Bool.or_eq_false_iff, decide_eq_false_iff_not] at h
 obtain ⟨h1, h2⟩ := h
 refine ⟨by omega, fun r hr => ?_⟩
 obtain ⟨i, hi, rfl⟩ := List.getElem_of_mem hr
 have := lO h2 hi
 rw [j6, show gr c i = c.rl[i] by simp [gr, List.getD, hi], Bool.not_eq_false', Bool.and_eq_true, decide_eq_true_iff] at this
 obtain ⟨q1, q2⟩ := this
 refine ⟨q1, ?_⟩
 unfold dB at q2
 split at q2
 exact absurd q2 (by decide)
 omega
theorem oW (W0 : World) (R : List HP) (c : Cfg) (h : CfOk W0 c) :
    aC Tryz.prog W0 45 [.agg (bU c).toArray] R (fun v B => ∃ at_, v = .tuple #[.int .i64 (fT c), .int .i64 at_] ∧ B = R) := by
 refine aG func45 ntmps45 rfl rfl ?_
 refine ae (ah (am rfl (bJ rfl) ?_))
 rintro _ _ ⟨b1, rfl, rfl⟩
 refine aa rfl (ai rfl) (aa rfl (ai rfl) (ag (ab (uU (ae (ah (aa rfl (ai rfl) (ag (ab (ae (ae (ah ?_))))))))))))
 refine aa rfl (al rfl bw rfl az rfl (by first | exact Nat.zero_add _ | rfl)) ?_
 refine aa rfl (ao aQ rfl (aA rfl)) ?_
 refine aa rfl (b0 rfl rfl) (aa rfl (ac rfl) ?_)
 refine bC rfl rfl rfl ?_ ?_
 intro g2_4
 refine ap rfl rfl rfl rfl (ap rfl rfl rfl rfl (aa rfl (aY rfl rfl) (ag (ab (cg rfl (ae (ah (aa rfl (ai rfl) (aa rfl (ai rfl) (ag (ab (av (aE (kL (au (.inl rfl) (.cons (ak rfl) (.cons (ak rfl) .nil)) ?_)))))))))))))))
 have he : fT c = 12 := by rw [fT, if_pos (by omega)]
 rw [he]
 exact ⟨_, ⟨0, rfl, rfl⟩, inferInstance⟩
 intro g2_4
 refine aa rfl (al rfl bw rfl az rfl (by first | exact Nat.zero_add _ | rfl)) ?_
 refine ar rfl rfl (aa rfl (ao aQ rfl (aA rfl)) ?_)
 refine ar rfl rfl (aa rfl (cy rfl rfl) (aa rfl (aM rfl rfl) (ag (ab ?_))))
 refine aw rfl ?_ ?_
 intro c2
 refine ae (ah (aa rfl (ai rfl) (aa rfl (ai rfl) (ag (ab (av (aE (kL (au (.inl rfl) (.cons (ak rfl) (.cons (ak rfl) .nil)) ?_)))))))))
 have he : fT c = 12 := by rw [fT, if_pos (by omega)]
 rw [he]
 exact ⟨_, ⟨0, rfl, rfl⟩, inferInstance⟩
 intro c2
 refine aB (ab (ae (ah (aa rfl (ai rfl) (aa rfl (ai rfl) (ag (ab (ae (tK (ab ?_))))))))))
 refine gM (fun e : Int × Int => e.1 = ir (eA c 0) ∧ ¬ (c.cats < 0 ∨ 8 < c.cats)) (fun e => [(1, .pointer (some ⟨b1, 0, none⟩)), (5, .int .i64 e.2), (6, .int .i64 e.1)]) (fun _ => pt b1 (dd c) :: R) ?_ ?_
 skip
 refine ae (ah (aa rfl (bY l9 lc (aH iV (aH iW bX)) (bq rfl iV rfl rfl (Nat.le_of_ble_eq_true rfl) SetL.eq (bq rfl iW rfl rfl (Nat.le_of_ble_eq_true rfl) SetL.eq bW))) ?_))
 refine aa rfl (bY l9 lc (aH iV (aH iW bX)) (bq rfl iV rfl rfl (Nat.le_of_ble_eq_true rfl) SetL.eq (bq rfl iW rfl rfl (Nat.le_of_ble_eq_true rfl) SetL.eq bW))) ?_
 refine aa rfl (bY l9 lc (aH iV (aH iW bX)) (bq rfl iV rfl rfl (Nat.le_of_ble_eq_true rfl) SetL.eq (bq rfl iW rfl rfl (Nat.le_of_ble_eq_true rfl) SetL.eq bW))) ?_
 refine aa rfl (bY l9 lc (aH iV (aH iW bX)) (bq rfl iV rfl rfl (Nat.le_of_ble_eq_true rfl) SetL.eq (bq rfl iW rfl rfl (Nat.le_of_ble_eq_true rfl) SetL.eq bW))) ?_
 refine aa rfl (bY l9 lc (aH iV (aH iW bX)) (bq rfl iV rfl rfl (Nat.le_of_ble_eq_true rfl) SetL.eq (bq rfl iW rfl rfl (Nat.le_of_ble_eq_true rfl) SetL.eq bW))) ?_
 refine aa rfl (ac rfl) (aa rfl (cp cn bN rfl rfl) ?_)
 refine am rfl (aU call118 rfl (Ay c)) ?_
 rintro _ B_ ⟨rfl, hB_⟩
 obtain rfl := hB_.symm
 refine am rfl (ot rfl call111 rfl (B3 (gn c))) ?_
 rintro _ B_ ⟨bg, rfl, hB_⟩
 obtain rfl := hB_.symm
 refine aa rfl (bY l9 lc (aH iV (aH iW bX)) (bq rfl iV rfl rfl (Nat.le_of_ble_eq_true rfl) SetL.eq (bq rfl iW rfl rfl (Nat.le_of_ble_eq_true rfl) SetL.eq bW))) ?_
 refine am rfl (g5 xL td lc rfl (eN rfl rfl (eN rfl rfl (eN rfl rfl (eN rfl rfl (eN rfl rfl (eN rfl rfl fZ)))))) rfl (by decide) (by decide) (by decide)) ?_
 rintro _ _ ⟨bl, rfl, rfl⟩
 refine iJ (b := bl) (o' := ax ((eA c bg).flatMap lN) 258) rfl ?_
 refine aa rfl (bu xL rfl) (aa rfl (ac rfl) (ag (ab (aW ?_))))
 refine cT (fun i : Nat => i ≤ 6 ∧ ∀ j (hj : j < (eA c bg).length), j < i → ((eA c bg)[j]).2.2 = false) (fun i => [(1, .pointer (some ⟨b1, 0, none⟩)), (5, .int .i64 0), (6, .int .i64 0), (29, .slice (some ⟨bl, 0, none⟩) 6 6), (30, .int .i64 6), (31, .int .i64 i)]) (fun _ => pt bl (ax ((eA c bg).flatMap lN) 258) :: pt b1 (dd c) :: kH 0 (bB [pt bg (ax [.bool (gn c)] 4)]) :: R) (fun i => 6 - i) 0 ?_ ?_ ?_ ?_
 exact ⟨Nat.zero_le _, fun j hj q => absurd q (Nat.not_lt_zero _)⟩
 · repeat (first | exact aX | refine aV rfl ?_)
 exact inferInstance
 intro i ⟨hi, hI⟩
 refine ae (ah (aa rfl (b0 rfl rfl) (ag (ab (ae ?_)))))
 refine aw rfl ?_ ?_
 intro c6
 refine aB (ab (ae (aW (ae ?_))))
 have hi1 : i < 6 := by omega
 have hlen : (eA c bg).length = 6 := rfl
 have hil : i < (eA c bg).length := by rw [hlen]; exact hi1
 have hok := B4 W0 c h bg (eA c bg)[i] (List.getElem_mem hil)
 have hEq := vB (eA c bg) i hil hI
 have hnx : (eA c bg)[i].2.2 = false → ∀ j (hj : j < (eA c bg).length), j < i + 1 → ((eA c bg)[j]).2.2 = false := fun q j hj hji => by
  rcases Nat.lt_or_ge j i with q2 | q2
  exact hI j hj q2
  obtain rfl : j = i := by omega
  exact q
 have hcell : cY (bK W0 (pt bl (ax ((eA c bg).flatMap lN) 258) :: pt b1 (dd c) :: kH 0 (bB [pt bg (ax [.bool (gn c)] 4)]) :: R)) bl (i * 2) (lN (eA c bg)[i]) := by
  obtain ⟨b, off, e1, hc⟩ := jQ (W0 := W0) (A := pt bl (ax ((eA c bg).flatMap lN) 258) :: pt b1 (dd c) :: kH 0 (bB [pt bg (ax [.bool (gn c)] 4)]) :: R) (f := lN) (sz := 2) (xs := eA c bg) (b := bl) (fun _ => rfl) rfl i (eA c bg)[i] (by simp [hil])
  cases e1
  rwa [Nat.zero_add] at hc
 generalize hy : (eA c bg)[i] = y at hok hEq hnx hcell
 obtain ⟨yv, ye, yb⟩ := y
 obtain ⟨fn, cs, rfl, hcall, hsp⟩ := hok
 dsimp only at hEq hnx hsp
 refine ah ?_
 refine aa rfl (ce xL td rfl rfl rfl hi1 (by first | exact Nat.zero_add _ | rfl)) ?_
 refine aa rfl (cV isAgg258 td rfl hcell rfl) ?_
 refine am rfl (cM lc) ?_
 rintro _ _ ⟨bx, rfl, rfl⟩
 refine bD (cD td rfl rfl rfl rfl rfl) ?_
 rintro _ _ rfl
 refine ag (ab (ae (ah ?_)))
 refine aa rfl (al rfl l9 rfl iV rfl (by first | exact Nat.zero_add _ | rfl)) ?_
 refine aa rfl (ao isAgg255 rfl (aA rfl)) ?_
 refine aa rfl (cp cn bN rfl rfl) ?_
 refine am rfl (mF (us := []) (cs := cs) rfl hcall rfl (hsp _)) ?_
 rintro _ B_ ⟨r_, rfl, hB_⟩
 obtain rfl := hB_.symm
 refine aa rfl (ac rfl) (aa rfl (aS rfl rfl) (aa rfl (aS rfl rfl) (aa rfl (ai rfl) (aa rfl (ai rfl) (ag (ab (ae (ah (aa rfl (ac rfl) (ag (ab ?_)))))))))))
 refine aw rfl ?_ ?_
 intro c9
 refine ae ?_
 refine cA [(bx, 0, _)] 5 cz rfl (aK aJ) (fun hS => ?_)
 refine aj 0 rfl rfl (by kernel_rfl) (by kernel_rfl) (by kernel_rfl) rfl hS (ac rfl) ?_
 refine aj 1 rfl rfl (by kernel_rfl) (by kernel_rfl) (by kernel_rfl) rfl hS (al rfl l9 rfl iW rfl (by first | exact Nat.zero_add _ | rfl)) ?_
 refine aj 2 rfl rfl (by kernel_rfl) (by kernel_rfl) (by kernel_rfl) rfl hS (ao isAgg51 rfl (aD (k := 0) rfl rfl)) ?_
 refine aj 3 rfl rfl (by kernel_rfl) (by kernel_rfl) (by kernel_rfl) rfl hS (ai rfl) ?_
 refine aj 4 rfl rfl (by kernel_rfl) (by kernel_rfl) (by kernel_rfl) rfl hS (ai rfl) ?_
 refine bL (by kernel_rfl) ?_; clear hS
 refine ab (cj (eW rfl (bi (bi (co (ab ?_))))))
 refine dz (ye, r_) ?_ ?_ ?_
 exact ⟨(hEq c9).symm, by omega⟩
 · repeat (first | exact aX | refine aV rfl ?_)
 exact inferInstance
 intro c9
 refine aB (bH (ab (ah ?_)))
 refine aa rfl (bF rfl rfl (by first | exact aZ (by omega) | rfl)) ?_
 refine aa rfl (ac rfl) (ag (ab ?_))
 refine cG (i + 1) ?_ ?_ ?_ ?_
 exact ⟨by omega, hnx (by simpa using c9)⟩
 omega
 · repeat (first | exact aX | refine aV rfl ?_)
 exact inferInstance
 intro c6
 refine cj (bi (bi (co (ab ?_))))
 refine dz ((0 : Int), (0 : Int)) ?_ ?_ ?_
 obtain rfl : i = 6 := by omega
 exact ⟨(vC _ fun j hj => hI j hj (by have : (eA c bg).length = 6 := rfl; omega)).symm, by omega⟩
 · repeat (first | exact aX | refine aV rfl ?_)
 exact inferInstance
 intro ⟨e, at_⟩ ⟨he, hcat⟩
 dsimp only at he ⊢
 have hce := B5 c 0 hcat
 rw [← he] at hce
 refine ae (ae (ah (aa rfl (ac rfl) (aa rfl (cu rfl rfl) (aa rfl (ac rfl) ?_)))))
 refine cJ rfl rfl rfl ?_ ?_
 intro g12_3
 have hall : ir (eA c 0) = 0 := by rw [← he]; exact g12_3
 have hgr : fw c = false := by
  rw [← Bool.not_eq_true]; intro q; simp only [eA, ir, q, if_true] at hall; exact absurd hall (by decide)
 have hri : f3 c = false := by
  rw [← Bool.not_eq_true]; intro q; simp only [eA, ir, q, if_true] at hall; split at hall <;> (try split at hall) <;> (try split at hall) <;> exact absurd hall (by decide)
 obtain ⟨k1, k2, k3⟩ := lP hgr
 have k4 : c.nl.length ≤ 4 := by
  simp only [f3, Bool.or_eq_false_iff, decide_eq_false_iff_not] at hri; omega
 refine aa rfl (cp cn bN rfl rfl) ?_
 refine ar rfl rfl ?_
 refine am rfl (aU xM rfl (rB W0 _ c h.g (fun g hg => (k3 g hg).2) k4 k2)) ?_
 rintro _ B_ ⟨rfl, hB_⟩
 obtain rfl := hB_.symm
 refine ar rfl rfl (aa rfl (cy rfl rfl) (aa rfl (aY rfl rfl) (ag (ab ?_))))
 refine aw rfl ?_ ?_
 intro c12
 refine ae (ah (aa rfl (ai rfl) (aa rfl (ai rfl) (ag (ab (av (aE (kL (au (.inl rfl) (.cons (ak rfl) (.cons (ak rfl) .nil)) ?_)))))))))
 rw [hce, if_pos (by omega)]
 exact ⟨_, ⟨0, rfl, rfl⟩, inferInstance⟩
 intro c12
 refine aB (ab (ae (ah (aa rfl (ac rfl) (aa rfl (ac rfl) (aa rfl (ai rfl) (aa rfl (ai rfl) (ag (ab (av (kL (au (.inl rfl) (.cons (ak rfl) (.cons (ak rfl) .nil)) ?_))))))))))))
 rw [hce, if_neg (by omega)]
 exact ⟨_, ⟨_, rfl, rfl⟩, inferInstance⟩
 intro g12_3
 refine ap rfl rfl rfl rfl (ap rfl rfl rfl rfl (aa rfl (aM rfl rfl) (ag (ab (eY rfl (aB (ab (ae (ah (aa rfl (ac rfl) (aa rfl (ac rfl) (aa rfl (ai rfl) (aa rfl (ai rfl) (ag (ab (av (kL (au (.inl rfl) (.cons (ak rfl) (.cons (ak rfl) .nil)) ?_))))))))))))))))))
 rw [hce, if_neg (by omega)]
 exact ⟨_, ⟨_, rfl, rfl⟩, inferInstance⟩
def rt (c : Cfg) : Bool := decide (fT c = 0)
theorem rM (W0 : World) (R : List HP) (c : Cfg) (h : CfOk W0 c) :
    aC Tryz.prog W0 120 [.agg (bU c).toArray] R (fun v B => v = .bool (rt c) ∧ B = R) := by
 refine aG func120 ntmps120 rfl rfl ?_
 refine ae (ah (am rfl (bJ rfl) ?_))
 rintro _ _ ⟨b1, rfl, rfl⟩
 refine aa rfl (ai rfl) (ag (ab (ae (ah (aa rfl (cp cn bN rfl rfl) ?_)))))
 refine am rfl (aU te rfl (oW W0 _ c h)) ?_
 rintro _ B_ ⟨at_, rfl, hB_⟩
 obtain rfl := hB_.symm
 refine aa rfl (ac rfl) (aa rfl (aS rfl rfl) (aa rfl (aS rfl rfl) (aa rfl (ai rfl) (aa rfl (ai rfl) (ag (ab (ae (ah (aa rfl (ac rfl) (aa rfl (cu rfl rfl) (aa rfl (ai rfl) (ag (ab (av (au (.inl rfl) (.cons (ak rfl) .nil) ?_)))))))))))))))
 refine ⟨_, ⟨?_, rfl⟩, inferInstance⟩
 refine congrArg Value.bool ?_
 rw [Bool.eq_iff_iff, rt]; simp
theorem jW {c : Cfg} (h : rt c = true) : 0 ≤ c.cats ∧ c.cats ≤ 8 ∧ fw c = false ∧ gt c = false ∧ i7 c = false ∧ f3 c = false ∧ i5 c = false ∧ gn c = false ∧ dA c c.gl.length ≤ 32 := by
 have h := of_decide_eq_true h
 unfold fT at h
 split at h
 exact absurd h (by decide)
 rename_i q1
 repeat' split at h
 all_goals first | exact absurd h (by decide) | skip
 rename_i q2 q3 q4 q5 q6 q7 q8
 exact ⟨by omega, by omega, by simpa using q2, by simpa using q3, by simpa using q4, by simpa using q5, by simpa using q6, by simpa using q7, by omega⟩
section
variable {P : Program} {S : World → Prop} {W0 : World} {N : FSz} {e : bQ} {A R : List HP} {t t' : TypeId} {x : Operand} {bs : List Nat} {a : Option Addr} {c n : Nat}
end
end
section
open Go.ChangeShapes Go.WideShapes Go.ChangeAt Go.RowKit
def eQ (P : Program) (w : World) : Nat → TypeId → List Value → Prop
 | 0, _, _ => False
 | fuel + 1, t, cs =>
  match P.underlying t with
  | some .bool => ∃ b, cs = [.bool b]
  | some (.int k) => ∃ n, cs = [.int k n] ∧ (Lit.int k n).wf = true
  | some .string => ∃ s, cs = [.string s] ∧ s.size ≤ maxLen
  | some (.slice e) => cs = [.slice none 0 0] ∨ ∃ a len cap, cs = [.slice (some a) len cap] ∧ len ≤ cap ∧ cap ≤ maxLen ∧
      ∀ i, i < len → ∃ cs', w.cells? 0 (a.add (i * P.cellsOf e)) (P.cellsOf e) = some cs' ∧ eQ P w fuel e cs'
  | some (.struct fs) => cs.length = P.cellsOf t ∧ ∀ f : Field, f ∈ fs.toList → eQ P w fuel f.type ((cs.drop f.offset).take (P.cellsOf f.type))
  | some (.array n e) => cs.length = P.cellsOf t ∧ ∀ i, i < n → eQ P w fuel e ((cs.drop (i * P.cellsOf e)).take (P.cellsOf e))
  | _ => True
section
variable {H : Type} {enc : TypeId × Value → H} {P : Program} {w W : World}
theorem oX {sp : Nat → Bool} : ∀ (fuel : Nat) (t : TypeId) (cs : List Value) (x : DataW H × List MemPlace), DataW.trod enc P w 0 sp true fuel t cs = some x → eQ P w fuel t cs
 | 0, t, cs, x, h => by simp [DataW.trod] at h
 | fuel + 1, t, cs, x, h => by
  unfold eQ
  cases hu : P.underlying t with
  | none => trivial
  | some d =>
   cases d with
   | bool =>
    simp only []
    unfold DataW.trod at h; simp only [hu] at h
    split at h <;> simp_all
   | int k =>
    simp only []
    obtain ⟨n, hc, _, hw⟩ := DataW.trod_int hu h
    exact ⟨n, hc, hw⟩
   | string =>
    simp only []
    unfold DataW.trod at h; simp only [hu] at h
    split at h <;> simp_all
   | slice e =>
    simp only []
    rcases DataW.trod_slice hu h with ⟨hc, _⟩ | ⟨a, len, cap, elems, rest, n, hf, hc, _, _, hl, hm, hle, hel, _⟩
    exact .inl hc
    refine .inr ⟨a, len, cap, hc, hl, hm, fun i hi => ?_⟩
    obtain rfl : fuel = n := by omega
    have h1 := hel i hi
    have h2 : elems[i]? = some elems[i] := by simp
    rw [h2] at h1
    cases hcs : w.cells? 0 (a.add (i * P.cellsOf e)) (P.cellsOf e) with
    | none => rw [hcs] at h1; cases h1
    | some cs' =>
     rw [hcs] at h1
     exact ⟨cs', rfl, oX fuel e cs' _ h1⟩
   | struct fs =>
    simp only []
    obtain ⟨xs, n, hf, _, hlen, hxs, hel⟩ := DataW.trod_struct hu h
    obtain rfl : fuel = n := by omega
    refine ⟨hlen, fun f hm => ?_⟩
    obtain ⟨i, hi, hfi⟩ := List.getElem_of_mem hm
    have h1 := hel i f (by simp at hi; simp [← hfi, hi])
    have h2 : xs[i]? = some (xs[i]'(by simp at hi; omega)) := by simp at hi; simp [hxs, hi]
    rw [h2] at h1
    exact oX fuel _ _ _ h1
   | array n e =>
    simp only []
    obtain ⟨xs, m, hf, _, hlen, hxs, hel⟩ := DataW.trod_array hu h
    obtain rfl : fuel = m := by omega
    refine ⟨hlen, fun i hi => ?_⟩
    have h1 := hel i hi
    have h2 : xs[i]? = some (xs[i]'(by omega)) := by simp [hxs, hi]
    rw [h2] at h1
    exact oX fuel _ _ _ h1
   | _ => trivial
def Ty (P : Program) (W : World) (t : TypeId) (v : Value) : Prop := (∃ (r : Reach) (b : Nat), Value.okWide P W r b t v) ∧ ∃ fuel, eQ P W fuel t v.cells.toList
theorem B6 {t : TypeId} {v : Value} {d : DataW H} {p : List MemPlace} {sp : Nat → Bool} {r : Reach} {b : Nat} (h : Value.okWide P W r b t v) (k : DataW.Trod enc P W 0 sp true t v d p) : Ty P W t v := by
 obtain ⟨fuel, hf⟩ := k
 exact ⟨⟨r, b, h⟩, fuel, oX fuel t _ _ hf⟩
variable {t : TypeId} {v : Value}
theorem fJ {k : IntKind} {fuel : Nat} {cs : List Value} (hu : P.underlying t = some (.int k)) (h : eQ P W fuel t cs) : ∃ n, cs = [.int k n] ∧ (Lit.int k n).wf = true := by
 cases fuel with
 | zero => exact h.elim
 | succ f => unfold eQ at h; simpa only [hu] using h
theorem lQ {fs : Array Field} {fuel : Nat} {cs : List Value} (hu : P.underlying t = some (.struct fs)) (h : eQ P W fuel t cs) : cs.length = P.cellsOf t ∧ ∃ f', ∀ f : Field, f ∈ fs.toList → eQ P W f' f.type ((cs.drop f.offset).take (P.cellsOf f.type)) := by
 cases fuel with
 | zero => exact h.elim
 | succ f => unfold eQ at h; simp only [hu] at h; exact ⟨h.1, f, h.2⟩
theorem B7 {e : TypeId} {fuel : Nat} {cs : List Value} (hu : P.underlying t = some (.slice e)) (h : eQ P W fuel t cs) : cs = [.slice none 0 0] ∨ ∃ a len cap, cs = [.slice (some a) len cap] ∧ len ≤ cap ∧ cap ≤ maxLen ∧
        ∃ f', ∀ i, i < len → ∃ cs', W.cells? 0 (a.add (i * P.cellsOf e)) (P.cellsOf e) = some cs' ∧ eQ P W f' e cs' := by
 cases fuel with
 | zero => exact h.elim
 | succ f =>
  unfold eQ at h; simp only [hu] at h
  rcases h with h | ⟨a, l, c, h1, h2, h3, h4⟩
  exact .inl h
  exact .inr ⟨a, l, c, h1, h2, h3, f, h4⟩
theorem B8 {k : IntKind} (hu : P.underlying t = some (.int k)) (h : Ty P W t v) : ∃ n, v = .int k n ∧ (Lit.int k n).wf = true := by
 obtain ⟨⟨r, b, h1⟩, fuel, h2⟩ := h
 obtain ⟨n, rfl⟩ := okWide_int hu h1
 obtain ⟨m, hm, hw⟩ := fJ hu h2
 simp only [Value.cells, List.cons.injEq, Value.int.injEq, true_and, and_true] at hm
 subst hm; exact ⟨n, rfl, hw⟩
theorem B9 {fs : Array Field} (hu : P.underlying t = some (.struct fs)) (h : Ty P W t v) : ∃ l : List Value, v = .agg l.toArray ∧ ∃ fuel, eQ P W fuel t l := by
 obtain ⟨⟨r, b, h1⟩, fuel, h2⟩ := h
 obtain ⟨cs, rfl, _⟩ := okWide_struct hu h1
 exact ⟨cs.toList, by simp, fuel, h2⟩
theorem vD {α : Type} {Q : Nat → α → Prop} : ∀ (n : Nat), (∀ i, i < n → ∃ x, Q i x) → ∃ l : List α, l.length = n ∧ ∀ i x, l[i]? = some x → Q i x
 | 0, _ => ⟨[], rfl, fun i x h => by simp at h⟩
 | n + 1, h => by
  obtain ⟨l, hl, hq⟩ := vD n (fun i hi => h i (by omega))
  obtain ⟨x, hx⟩ := h n (by omega)
  refine ⟨l ++ [x], by simp [hl], fun i y hy => ?_⟩
  by_cases hi : i < n
  rw [List.getElem?_append_left (by omega)] at hy; exact hq i y hy
  by_cases he : i = n
  subst he; subst hl; simp at hy; subst hy; exact hx
  rw [List.getElem?_eq_none (by simp; omega)] at hy; cases hy
theorem vE {α β : Type} {f : α → Option β} : ∀ {l : List α} {r : List β}, l.mapM f = some r → r.length = l.length ∧ ∀ (i : Nat) (x : α), l[i]? = some x → f x = r[i]?
 | [], r, h => by
  simp only [List.mapM_nil] at h
  obtain rfl : [] = r := Option.some.inj h
  exact ⟨rfl, fun i x hx => by simp at hx⟩
 | a :: l, r, h => by
  rw [List.mapM_cons] at h
  cases ha : f a with
  | none => simp [ha] at h
  | some y =>
   cases hl : l.mapM f with
   | none => simp [ha, hl] at h
   | some ys =>
    simp only [ha, hl, Option.bind_eq_bind, Option.bind_some, Option.pure_def, Option.some.injEq] at h
    subst h
    obtain ⟨h1, h2⟩ := vE hl
    refine ⟨by simp [h1], fun i x hx => ?_⟩
    cases i with
    | zero => simp only [List.getElem?_cons_zero, Option.some.injEq] at hx ⊢; subst hx; exact ha
    | succ i => simpa using h2 i x (by simpa using hx)
theorem vF {a : Addr} {n : Nat} {cs : List Value} (hn : 0 < n) (h : W.cells? 0 a n = some cs) : a.spot = none ∧ cs.length = n ∧ ∀ i v, cs[i]? = some v → W.cell? ⟨a.block, a.off + i, none⟩ = some v := by
 simp only [World.cells?, Nat.zero_le, if_true] at h
 obtain ⟨h1, h2⟩ := vE h
 simp only [List.length_range] at h1
 have hs : a.spot = none := by
  have h0 := h2 0 0 (by simp [hn])
  have : cs[0]? = some (cs[0]'(by omega)) := by simp [h1, hn]
  rw [this] at h0
  simp only [Addr.add, if_true] at h0
  unfold World.cell? at h0
  split at h0
  split at h0
  cases h0
  rename_i hk; simpa using hk
  cases h0
 refine ⟨hs, h1, fun i v hv => ?_⟩
 have hi : i < n := by
  rcases Nat.lt_or_ge i n with k | k
  exact k
  rw [List.getElem?_eq_none (by omega)] at hv; cases hv
 have h3 := h2 i i (by simp [hi])
 rw [hv] at h3
 obtain ⟨b, o, s⟩ := a
 simp only at hs
 subst hs
 rwa [fu] at h3
def vG {α : Type} (W : World) (a : Option Addr) (sz : Nat) (f : α → List Value) (xs : List α) : Prop :=
  ∀ i x, xs[i]? = some x → ∃ b off, a = some ⟨b, off, none⟩ ∧ ∀ A, cY (bK W A) b (off + i * sz) (f x)
theorem vH {α : Type} {f : α → List Value} {Q : α → Prop} : ∀ {rows : List (List Value)}, (∀ r ∈ rows, ∃ x, r = f x ∧ Q x) → ∃ xs : List α, rows = xs.map f ∧ ∀ x ∈ xs, Q x
 | [], _ => ⟨[], rfl, fun _ h => by simp at h⟩
 | r :: rows, h => by
  obtain ⟨x, rfl, hq⟩ := h r (by simp)
  obtain ⟨xs, rfl, hqs⟩ := vH (rows := rows) fun r hr => h r (by simp [hr])
  exact ⟨x :: xs, rfl, fun y hy => by
   rcases List.mem_cons.1 hy with rfl | hy
   exact hq
   exact hqs y hy⟩
theorem jX {α : Type} {l : List α} {n : Nat} (h : n + 1 = l.length) : ∃ a l', l = a :: l' ∧ n = l'.length := by
 cases l with
 | nil => cases h
 | cons a l => exact ⟨a, l, rfl, by simpa using h⟩
theorem vJ {α : Type} {l : List α} (h : 0 = l.length) : l = [] := List.length_eq_zero_iff.1 h.symm
theorem vK (hl : laidOutB P = true) {W' : World} (hb : Below W.heap.size W W') : ∀ (ts : List TypeId) (vs : List Value) (ds : List (DataW H)) (p : List MemPlace), (ts.all fun t => P.readableRec t && decide (t < P.types.size)) = true →
    DataW.TrodAll enc P W 0 (fun _ => true) true ts vs ds p → DataW.TrodAll enc P W' 0 (fun b => decide (b < W.heap.size)) true ts vs ds p
 | [], [], [], p, _, h => h
 | [], _ :: _, _, p, _, h => by cases h
 | [], [], _ :: _, p, _, h => by cases h
 | _ :: _, [], _, p, _, h => by cases h
 | _ :: _, _ :: _, [], p, _, h => by cases h
 | t :: ts, v :: vs, d :: ds, p, hr, h => by
  obtain ⟨q, q', h1, h2, rfl⟩ := h
  simp only [List.all_cons, Bool.and_eq_true, decide_eq_true_eq] at hr
  have lt : ∀ x ∈ q, x.block < W.heap.size := by obtain ⟨m, hm⟩ := h1; exact DataW.trod_lt m _ _ _ hm
  exact ⟨q, q', Below.trod hl hr.1.1 hr.1.2 h1 hb lt, vK hl hb ts vs ds q' hr.2 h2, rfl⟩
theorem vL {sp : Nat → Bool} {r : Reach} {b : Nat} : ∀ (ts : List TypeId) (vs : List Value) (ds : List (DataW H)) (p : List MemPlace), (∀ (j : Nat) t v, ts[j]? = some t → vs[j]? = some v → Value.okWide P W r b t v) →
    DataW.TrodAll enc P W 0 sp true ts vs ds p → ts.length = vs.length ∧ ts.length = ds.length ∧ ∀ (j : Nat) t v, ts[j]? = some t → vs[j]? = some v → Ty P W t v
 | [], [], [], p, _, h => ⟨rfl, rfl, fun j t v h => by simp at h⟩
 | [], _ :: _, _, p, _, h => by cases h
 | [], [], _ :: _, p, _, h => by cases h
 | _ :: _, [], _, p, _, h => by cases h
 | _ :: _, _ :: _, [], p, _, h => by cases h
 | t :: ts, v :: vs, d :: ds, p, hok, h => by
  obtain ⟨q, q', h1, h2, rfl⟩ := h
  obtain ⟨k1, k2, k3⟩ := vL ts vs ds q' (fun j t v ht hv => hok (j + 1) t v (by simpa using ht) (by simpa using hv)) h2
  refine ⟨by simp [k1], by simp [k2], fun j t' v' ht hv => ?_⟩
  cases j with
  | zero =>
   simp only [List.getElem?_cons_zero, Option.some.injEq] at ht hv
   subst ht; subst hv
   exact B6 (hok 0 t v rfl rfl) h1
  | succ j => exact k3 j t' v' (by simpa using ht) (by simpa using hv)
end
end
section
open Go.ChangeShapes Go.WideShapes Go.ChangeAt Go.RowKit
set_option linter.unusedSimpArgs false
set_option linter.unusedVariables false
variable {P : Program} {w W : World} {t : TypeId} {v : Value}
theorem nf {α : Type} {f : α → List Value} {Q : α → Prop} {e : TypeId} {fuel : Nat} {cs : List Value} (sz : Nat) (hu : P.underlying t = some (.slice e)) (hsz : P.cellsOf e = sz) (hc : 0 < sz) (hdec : ∀ fuel r, eQ P W fuel e r → ∃ x, r = f x ∧ Q x) (h : eQ P W fuel t cs) :
    ∃ a c xs, cs = [.slice a (List.length (α := α) xs) c] ∧ xs.length ≤ c ∧ c ≤ maxLen ∧ vG W a sz f xs ∧ ∀ x ∈ xs, Q x := by
 subst hsz
 rcases B7 hu h with rfl | ⟨a', n', c', rfl, hl, hm, f', hr⟩
 exact ⟨none, 0, [], rfl, by simp, by omega, fun i x hx => by simp at hx, fun x hx => by simp at hx⟩
 obtain ⟨rows, hlen, hq⟩ := vD n' hr
 obtain ⟨xs, rfl, hQ⟩ := vH (rows := rows) (f := f) (Q := Q) fun r hr => by
  obtain ⟨i, hi, rfl⟩ := List.getElem_of_mem hr
  exact hdec _ _ (hq i rows[i] (by simp)).2
 rw [List.length_map] at hlen
 subst hlen
 refine ⟨some a', c', xs, rfl, hl, hm, fun i x hx => ?_, hQ⟩
 obtain ⟨h4, _⟩ := hq i (f x) (by simp [hx])
 obtain ⟨hs, hlr, hcell⟩ := vF hc h4
 have hpos : 0 < xs.length := by
  rcases Nat.eq_zero_or_pos xs.length with q | q
  have := List.eq_nil_of_length_eq_zero q; subst this; simp at hx
  exact q
 obtain ⟨h5, _⟩ := hq 0 (f xs[0]) (by simp [hpos])
 obtain ⟨hs0, _⟩ := vF hc h5
 obtain ⟨b, o, s⟩ := a'
 simp only [Nat.zero_mul, Addr.add, if_true] at hs0
 subst hs0
 refine ⟨b, o, rfl, fun A j v hv => ?_⟩
 have := hcell j v hv
 rw [fu] at this
 exact tZ this
theorem ng {α : Type} {W : World} {A : List HP} {a : Option Addr} {sz : Nat} {f : α → List Value} {xs : List α} (h : vG W a sz f xs) : cF (bK W A) a sz f xs := fun i x hi => by
 obtain ⟨b, off, rfl, hc⟩ := h i x hi
 exact ⟨b, off, rfl, hc A⟩
end
section
open Go.RowKit
structure Sec where
  at_ : Int
  d : ByteArray
instance : Inhabited Sec := ⟨⟨0, ByteArray.empty⟩⟩
structure Inp where
  at_ : Int
  g : Int
  k : Int
  code : Int
  d : ByteArray
instance : Inhabited Inp := ⟨⟨0, 0, 0, 0, ByteArray.empty⟩⟩
theorem Own.step {W0 w w' : World} {A C : List HP} (h : Own W0 w A) (k : Own w w' C) : Own W0 w' (C ++ A) := by
 obtain ⟨lA, sA, nA, mA⟩ := h.owns
 obtain ⟨lC, sC, nC, mC⟩ := k.owns
 have hlt : ∀ p ∈ lA, p.1 < w.heap.size := fun p hp => by
  have := (mA p hp).2
  rcases Nat.lt_or_ge p.1 w.heap.size with q | q
  exact q
  rw [Array.getElem?_eq_none q] at this; cases this
 refine ⟨k.os.trans h.os, k.tape.trans h.tape, k.output.trans h.output, Nat.le_trans h.size k.size, fun b hb => (k.base b (Nat.lt_of_lt_of_le hb h.size)).trans (h.base b hb), lC ++ lA, fg.append.2 ⟨lC, lA, rfl, sC, sA⟩, ?_, fun p hp => ?_⟩
 rw [List.map_append, List.nodup_append]
 refine ⟨nC, nA, fun x hx y hy e => ?_⟩
 obtain ⟨p, hp, rfl⟩ := List.mem_map.1 hx
 obtain ⟨q, hq, rfl⟩ := List.mem_map.1 hy
 have h1 := (mC p hp).1
 have h2 := hlt q hq
 omega
 rcases List.mem_append.1 hp with q | q
 exact ⟨Nat.le_trans h.size (mC p q).1, (mC p q).2⟩
 exact ⟨(mA p q).1, (k.base p.1 (hlt p q)).trans (mA p q).2⟩
theorem Ba {P : Program} {W0 : World} {f : FuncId} {args : List Value} {A : List HP} {Post : Value → List HP → Prop} (h : ∀ W, Own W0 W A → aC P W f args [] Post) : aC P W0 f args A (fun v B => ∃ C, Post v C ∧ B = C ++ A) := by
 intro w hO
 refine (h w hO w (Own.refl w)).mono ?_
 rintro e w' ⟨v, C, rfl, hp, hO'⟩
 exact ⟨v, C ++ A, rfl, ⟨C, hp, rfl⟩, hO.step hO'⟩
theorem Bb {W0 W : World} {A : List HP} {b off : Nat} {vs : List Value} (hO : Own W0 W A) (h : cY (bK W0 A) b off vs) : ∀ B, cY (bK W B) b off vs := fun B i v hi => tZ (h i v hi W hO)
theorem nh {α : Type} {W0 W : World} {A : List HP} {a : Option Addr} {sz : Nat} {f : α → List Value} {xs : List α} (hO : Own W0 W A) (h : cF (bK W0 A) a sz f xs) : ∀ B, cF (bK W B) a sz f xs := fun B i x hi => by
 obtain ⟨b, off, rfl, hc⟩ := h i x hi
 exact ⟨b, off, rfl, Bb hO hc B⟩
abbrev ni := Int × Value × Nat
def Bc (p : ni) : MapEntry := { key := .int .i64 p.1, val := p.2.1, born := p.2.2 }
def rN (L : List ni) : Array MapEntry := (L.map Bc).toArray
def rO : List ni → Int → Option Value
 | [], _ => none
 | p :: l, k => if p.1 = k then some p.2.1 else rO l k
def kP (b : Nat) (f : Int → Option Value) : HP := chk (fun C => ∃ (L : List ni) (clock : Nat), (L.map (·.1)).Nodup ∧ (∀ k, rO L k = f k) ∧ C = [pt b (.map (rN L) clock)])
section
variable {rd : Option Nat} {P : Program} {S : World → Prop} {W0 : World} {N : FSz} {e : bQ} {A B R : List HP}
variable {op : Op} {ty t K E : TypeId} {v z : Value} {b : Nat} {x y u : Operand} {f : Int → Option Value} {k : Int}
theorem Be {L : List ni} {c : Nat} (h1 : (L.map (·.1)).Nodup) (h2 : ∀ k, rO L k = f k) : Ent (pt b (.map (rN L) c) :: R) (kP b f :: R) := eZ (R := R) (C := [_]) ⟨L, c, h1, h2, rfl⟩
theorem Bf : dl P W0 N e A (.makeMap t none) (fun v B => ∃ b, v = .map (some b) ∧ B = kP b (fun _ => none) :: A) := kv fun a w _ _ _ _ _ hF hO => by
 refine ⟨_, w.alloc (.map #[] 0), _, .inl ?_, ⟨w.heap.size, rfl, rfl⟩, ?_⟩
 simp [execOp, Instr.makeMap, newObj, Sem.run]
 have hn := hO.new (.map (rN []) 0)
 exact hn.ent (Be (L := []) (by simp) (fun _ => rfl))
end
section
variable {P : Program} {S : World → Prop} {W0 : World} {N : FSz} {e : bQ} {A R : List HP} {t t' ty : TypeId} {b off : Nat} {x y : Operand} {l l' : List Value}
theorem Bg {E n sz i h o' : Nat} {k k' : IntKind} {j1 j2 : Int} (hu : P.underlying t = some (.array n E)) (hs : ∀ w, (sizeOf E).run P w = .ok sz w) (hx : ev e x = some (.pointer (some ⟨b, off, none⟩))) {lo hi : Operand} (h1 : ev e lo = some (.int k j1)) (h2 : ev e hi = some (.int k' j2)) (e1 : j1 = (i : Int)) (e2 : j2 = (h : Int)) (hih : i ≤ h) (hhn : h ≤ n) (hin : i < n) (ho : off + i * sz = o') :
    cC P S N e (.slice t x (some lo) (some hi) none) (.slice (some ⟨b, o', none⟩) (h - i) (n - i)) := fun a w _ _ _ _ _ hF _ => by
 subst e1; subst e2; subst ho
 have hmi : ¬ n = i := by omega
 simp [execOp, Instr.sliceAt, hF.eval hx, hF.eval h1, hF.eval h2, dY hu, Instr.sureAddr, Instr.sliceBounds, jP hhn, jP hih, hs, hmi, fu]
theorem Bh {E n m c : Nat} {a : Option Addr} (hu : P.underlying t = some (.array n E)) (hx : ev e x = some (.slice a m c)) (hn : ¬ m < n) : cC P S N e (.sliceToArrayPointer t x) (.pointer a) := fun act w _ _ _ _ _ hF _ => by
 simp [execOp, hF.eval hx, Instr.arrayAt, dY hu, hn]
theorem Bi {S : World → Prop} {b off n j : Nat} {l vs : List Value} (h : cY S b off l) (hv : (l.drop j).take n = vs) : cY S b (off + j) vs := fun i v hi => by
 subst hv
 rw [List.getElem?_take] at hi
 split at hi
 rw [List.getElem?_drop] at hi
 rw [Nat.add_assoc]
 exact h (j + i) v hi
 cases hi
end
abbrev iP (ps pm d : Nat) : Obj := ax [.pointer (some ⟨ps, 0, none⟩), .pointer (some ⟨pm, 0, none⟩), .int .u32 (d : Nat)] 368
theorem Bj (pv ps pm d : Nat) : aC Tryz.prog W0 276 [.pointer (some ⟨pv, 0, none⟩)] (pt pv (iP ps pm d) :: R) (fun v B => v = .bool false ∧ B = pt pv (iP ps pm d) :: R) := by
 refine aG func276 ntmps276 rfl rfl ?_
 refine ae (ah (aa rfl (ai rfl) (ag (ab (ae (ah (aa rfl (ac rfl) (aa rfl (dv Fj rfl rfl) (aa rfl (ac rfl) ?_)))))))))
 refine bC rfl rfl rfl ?_ ?_
 intro g1_3
 cases g1_3
 intro g1_3
 refine aa rfl (ac rfl) (ar rfl rfl (aa rfl (aF rfl) (ar rfl rfl ?_)))
 refine aa rfl (al rfl xN rfl iA rfl (by first | exact Nat.zero_add _ | rfl)) ?_
 refine ar rfl rfl (aa rfl (ao kg rfl (aA rfl)) ?_)
 refine ar rfl rfl (aa rfl (dv xy rfl rfl) (aa rfl (aM rfl rfl) (aa rfl (ai rfl) (ag (ab (av (au (.inl rfl) (.cons (ak rfl) .nil) ?_)))))))
 exact ⟨_, ⟨rfl, rfl⟩, inferInstance⟩
theorem Bl (W0 : World) (R : List HP) (ps pm : Nat) (fr : List bZ) (pg : List Pl) (h : Pgs pg) (h0 : 0 < fr.length) :
    aC Tryz.prog W0 90 [.pointer (some ⟨ps, 0, none⟩), .pointer (some ⟨pm, 0, none⟩)] (bG ps fr :: pt pm (dF pg) :: R)
      (fun v B => ∃ b, v = .tuple #[.pointer (some ⟨b, 0, none⟩), .int .i64 0] ∧ B = pt b (iP ps pm 0) :: bG ps fr :: pt pm (dF pg) :: R) := by
 refine aG func90 ntmps90 rfl rfl ?_
 refine ae (ah (aa rfl (ai rfl) (aa rfl (ai rfl) (ag (ab (ae (ae (ah (aa rfl (ac rfl) (am rfl (bn nG rfl (lF W0 _ ps fr)) ?_))))))))))
 rintro _ B_ ⟨rfl, hB_⟩
 obtain rfl := hB_.symm
 refine aa rfl (cu rfl rfl) (aa rfl (ac rfl) ?_)
 refine bC rfl rfl rfl ?_ ?_
 intro g1_4
 omega
 intro g1_4
 refine aa rfl (ac rfl) (ar rfl rfl (am rfl (bn call207 rfl (zC pm pg h)) ?_))
 rintro _ B_ ⟨rfl, hB_⟩
 obtain rfl := hB_.symm
 refine ar rfl rfl (aa rfl (cu rfl rfl) (aa rfl (aM rfl rfl) (ag (ab ?_))))
 refine aw rfl ?_ ?_
 intro c1
 exact absurd c1 (by decide)
 intro c1
 refine aB (ab (ae (ah (aa rfl (ac rfl) (aa rfl (ac rfl) (aa rfl (bY xN zeroValue368 (aH iA (aH xO (aH cQ bX))) (bq rfl iA rfl rfl (Nat.le_of_ble_eq_true rfl) SetL.eq (bq rfl xO rfl rfl (Nat.le_of_ble_eq_true rfl) SetL.eq bW))) ?_))))))
 refine am rfl (bJ rfl) ?_
 rintro _ _ ⟨b1, rfl, rfl⟩
 refine aa rfl (ai rfl) (aa rfl (ai rfl) (ag (ab (av (au (.inl rfl) (.cons (ak rfl) (.cons (ak rfl) .nil)) ?_)))))
 exact ⟨_, ⟨b1, rfl, rfl⟩, inferInstance⟩
theorem Bm (pv ps pm d : Nat) : aC Tryz.prog W0 143 [.pointer (some ⟨pv, 0, none⟩)] (pt pv (iP ps pm d) :: R) (fun v B => v = .pointer (some ⟨pm, 0, none⟩) ∧ B = pt pv (iP ps pm d) :: R) := by
 refine aG func143 ntmps143 rfl rfl ?_
 refine ae (ah (aa rfl (ai rfl) (ag (ab (ae (ae (ah (aa rfl (ac rfl) (am rfl (bn call276 rfl (Bj pv ps pm d)) ?_)))))))))
 rintro _ B_ ⟨rfl, hB_⟩
 obtain rfl := hB_.symm
 refine ag (ab ?_)
 refine aw rfl ?_ ?_
 intro c1
 exact absurd c1 (by decide)
 intro c1
 refine aB (ab (ae (ah (aa rfl (ac rfl) (aa rfl (aF rfl) ?_)))))
 refine aa rfl (al rfl xN rfl xO rfl (by first | exact Nat.zero_add _ | rfl)) ?_
 refine aa rfl (ao xP rfl (aA rfl)) ?_
 refine aa rfl (ai rfl) (ag (ab (av (au (.inl rfl) (.cons (ak rfl) .nil) ?_))))
 exact ⟨_, ⟨rfl, rfl⟩, inferInstance⟩
def Bn (len : Nat) (pg : List Pl) (n : Int) : Bool := ej pg n && decide (n < 8) && decide ((jB pg n).1 < len)
def vM (a : Nat) : Int := ((a / 64 : Nat) : Int)
def rP (len : Nat) (pg : List Pl) (pa n : Nat) : Prop := ∀ i, i < n → Bn len pg (vM (pa + i)) = true
instance {len : Nat} {pg : List Pl} {pa n : Nat} : Decidable (rP len pg pa n) := by unfold rP; exact Nat.decidableBallLT n _
def rQ (len : Nat) (pg : List Pl) (pa : Nat) (n : Int) : Bool := decide (0 ≤ n ∧ pa ≤ 512 ∧ n ≤ 512 - (pa : Int)) && decide (rP len pg pa n.toNat)
def Bo (pg : List Pl) (a : Nat) : Int := (jB pg (vM a)).1
def Bp (fr : List bZ) (pg : List Pl) (a : Nat) : Nat := jA fr (Bo pg a) ((a % 64 : Nat) : Int) 1
def Bq (fr : List bZ) (pg : List Pl) (pa n : Nat) : List Nat := (List.range n).map fun i => Bp fr pg (pa + i)
end
end Go.Proofs.YtofillmoflhijaaGreat
