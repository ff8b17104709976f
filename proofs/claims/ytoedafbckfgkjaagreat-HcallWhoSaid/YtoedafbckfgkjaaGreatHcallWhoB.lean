/-
  Part 2 of the proof of HcallWho: rules, and walks of functions. Conditions: none.
-/
import Derived.Test.YtoedafbckfgkjaaGreatHcallWhoA
namespace Go.Proofs.YtoedafbckfgkjaaGreat
set_option linter.unusedSimpArgs false
set_option linter.unusedVariables false
set_option maxRecDepth 20000
set_option linter.defProp false
set_option synthInstance.maxSize 8192
set_option synthInstance.maxHeartbeats 2000000
section
open Go.RowKit
theorem oc {a : Nat} (h : a < 9223372036854775808) : (BitVec.ofInt 64 (a : Int)).toNat = a := by
 rw [BitVec.toNat_ofInt]; omega
theorem uP {a b : Nat} (ha : a < 9223372036854775808) (hb : b < 9223372036854775808) : pW .i64 a b = ((a &&& b : Nat) : Int) := by
 have h : a &&& b < 9223372036854775808 := Nat.lt_of_le_of_lt Nat.and_le_left ha
 show IntKind.wrap .i64 ((BitVec.ofInt 64 (a : Int) &&& BitVec.ofInt 64 (b : Int)).toNat : Int) = _
 rw [BitVec.toNat_and, oc ha, oc hb, aK (by omega)]
theorem A1 {a b : Nat} (ha : a < 9223372036854775808) (hb : b < 9223372036854775808) : pX .i64 a b = ((a - (a &&& b) : Nat) : Int) := by
 have hle : a &&& b ≤ a := Nat.and_le_left
 generalize hx : BitVec.ofInt 64 (a : Int) = x
 generalize hy : BitVec.ofInt 64 (b : Int) = y
 have ex : x.toNat = a := by rw [← hx]; exact oc ha
 have ey : y.toNat = b := by rw [← hy]; exact oc hb
 have e : (x &&& ~~~ y).toNat = a - (a &&& b) := by
  have hz : (x &&& ~~~ y) &&& (x &&& y) = 0#64 := by
   ext i hi
   simp only [BitVec.getElem_and, BitVec.getElem_not, BitVec.getElem_zero]
   cases x[i] <;> cases y[i] <;> rfl
  have h1 : (x &&& ~~~ y) + (x &&& y) = x := by
   rw [BitVec.add_eq_or_of_and_eq_zero _ _ hz]
   ext i hi
   simp only [BitVec.getElem_or, BitVec.getElem_and, BitVec.getElem_not]
   cases x[i] <;> cases y[i] <;> rfl
  have h2 := congrArg BitVec.toNat h1
  rw [BitVec.toNat_add_of_and_eq_zero hz, BitVec.toNat_and x y, ex, ey] at h2
  omega
 show IntKind.wrap .i64 ((BitVec.ofInt 64 (a : Int) &&& ~~~ BitVec.ofInt 64 (b : Int)).toNat : Int) = _
 rw [hx, hy, e, aK (by omega)]
def dh (l : Int) : Bool := decide (0 ≤ l ∧ l < 256)
theorem iE {l : Int} : dh l = true ↔ 0 ≤ l ∧ l < 256 := by simp [dh]
def io (a b : Int) : Bool := dh a && dh b && decide (a.toNat - (a.toNat &&& b.toNat) = 0)
theorem od {a b : Int} (h : ¬ (dh a = true ∧ dh b = true)) : io a b = false := by
 rw [← Bool.not_eq_true]; intro q
 simp only [io, Bool.and_eq_true] at q
 exact h q.1
theorem uQ {a b : Nat} (ha : a < 256) : a - (a &&& b) = 0 ↔ ∀ c, c < 8 → a.testBit c = true → b.testBit c = true := by
 have hle : a &&& b ≤ a := Nat.and_le_left
 constructor
 ·intro h c _ hc
  have e : a &&& b = a := by omega
  have := congrArg (fun n => n.testBit c) e
  simp only [Nat.testBit_and, hc, Bool.true_and] at this
  exact this
 ·intro h
  have e : a &&& b = a := by
   apply Nat.eq_of_testBit_eq
   intro i
   rw [Nat.testBit_and]
   by_cases hi : i < 8
   ·cases ha' : a.testBit i with
    | false => rfl
    | true => rw [h i hi ha']; rfl
   ·have : a.testBit i = false := Nat.testBit_lt_two_pow (Nat.lt_of_lt_of_le ha (Nat.pow_le_pow_right (n := 2) (by decide) (show 8 ≤ i by omega)))
    rw [this]; rfl
  omega
theorem oe (W0 : World) (R : List HP) (l : Int) : ao Tryz.prog W0 249 [.int .i64 l] R (fun v B => v = .bool (dh l) ∧ B = R) := by
 refine aD Tryz.func249 Tryz.ntmps249 rfl rfl ?_
 refine au 10 ?_
 refine bX rfl rfl rfl ?_ ?_
 ·intro g1_3
  refine au 8 ?_
  refine ah (.inl rfl) (.cons (ac rfl) .nil) ?_
  refine ⟨_, ⟨?_, rfl⟩, inferInstance⟩
  refine congrArg Value.bool ?_
  rw [Bool.eq_iff_iff]; simp only [dh, decide_eq_true_eq, Bool.false_eq_true, false_iff]; omega
 ·intro g1_3
  refine au 6 ?_
  refine ah (.inl rfl) (.cons (ac rfl) .nil) ?_
  refine ⟨_, ⟨?_, rfl⟩, inferInstance⟩
  refine congrArg Value.bool ?_
  rw [Bool.eq_iff_iff]; simp only [dh, decide_eq_true_eq, Bool.false_eq_true, false_iff]; omega
theorem A2 (W0 : World) (R : List HP) (a b : Int) : ao Tryz.prog W0 267 [.int .i64 a, .int .i64 b] R (fun v B => v = .bool (io a b) ∧ B = R) := by
  refine aD Tryz.func267 Tryz.ntmps267 rfl rfl ?_
  refine au 8 ?_
  refine ae rfl (aF t1 rfl (oe W0 _ a)) ?_
  rintro _ B_ ⟨rfl, hB_⟩
  obtain rfl := hB_.symm
  refine aa rfl (ag rfl) ?_
  refine bX rfl rfl rfl ?_ ?_
  · intro g1_3
    refine au 2 ?_
    refine ae rfl (aF t1 rfl (oe W0 _ b)) ?_
    rintro _ B_ ⟨rfl, hB_⟩
    obtain rfl := hB_.symm
    refine au 2 ?_
    refine bX rfl rfl rfl ?_ ?_
    · intro g1_7
      obtain ⟨x, rfl, hx⟩ : ∃ x : Nat, a = (x : Int) ∧ x < 256 := ⟨a.toNat, by have := iE.1 g1_3; omega, by have := iE.1 g1_3; omega⟩
      obtain ⟨y, rfl, hy⟩ : ∃ y : Nat, b = (y : Int) ∧ y < 256 := ⟨b.toNat, by have := iE.1 g1_7; omega, by have := iE.1 g1_7; omega⟩
      refine au 4 ?_
      refine aa rfl (yM rfl rfl (A1 (by omega) (by omega))) ?_
      refine au 7 ?_
      refine ah (.inl rfl) (.cons (ac rfl) .nil) ?_
      refine ⟨_, ⟨?_, rfl⟩, inferInstance⟩
      first
        | (rw [hno]; rfl)
        | (refine congrArg Value.bool ?_
           rw [Bool.eq_iff_iff, beq_iff_eq, io, g1_3, g1_7, Int.toNat_natCast, Int.toNat_natCast]
           simp only [Bool.and_self, Bool.true_and, decide_eq_true_iff]
           omega)
    · intro g1_7
      have hno := od (a := a) (b := b) (fun q => g1_7 q.2)
      refine au 8 ?_
      refine ah (.inl rfl) (.cons (ac rfl) .nil) ?_
      refine ⟨_, ⟨?_, rfl⟩, inferInstance⟩
      first
        | (rw [hno]; rfl)
        | (refine congrArg Value.bool ?_
           rw [Bool.eq_iff_iff, beq_iff_eq, io, g1_3, g1_7, Int.toNat_natCast, Int.toNat_natCast]
           simp only [Bool.and_self, Bool.true_and, decide_eq_true_iff]
           omega)
  · intro g1_3
    have hno := od (a := a) (b := b) (fun q => g1_3 q.1)
    refine au 12 ?_
    refine ah (.inl rfl) (.cons (ac rfl) .nil) ?_
    refine ⟨_, ⟨?_, rfl⟩, inferInstance⟩
    first
      | (rw [hno]; rfl)
      | (refine congrArg Value.bool ?_
         rw [Bool.eq_iff_iff, beq_iff_eq, io, g1_3, g1_7, Int.toNat_natCast, Int.toNat_natCast]
         simp only [Bool.and_self, Bool.true_and, decide_eq_true_iff]
         omega)
theorem uR (W0 : World) (R : List HP) (l : Int) : ao Tryz.prog W0 167 [.int .i64 l] R (fun v B => ∃ n : Int, v = .int .i64 n ∧ (decide (n < 0) = !dh l) ∧ B = R) := by
 refine aD Tryz.func167 Tryz.ntmps167 rfl rfl ?_
 refine au 9 ?_
 refine ae rfl (aF t1 rfl (oe W0 _ l)) ?_
 rintro _ B_ ⟨rfl, hB_⟩
 obtain rfl := hB_.symm
 refine au 3 ?_
 refine ai rfl ?_ ?_
 ·intro c1
  refine au 7 ?_
  refine ah (.inl rfl) (.cons (ac rfl) .nil) ?_
  have h : dh l = false := by simpa using c1
  exact ⟨_, ⟨-1, rfl, by rw [h]; rfl, rfl⟩, inferInstance⟩
 ·intro c1
  have hl : dh l = true := Decidable.not_not.1 c1
  obtain ⟨x, rfl, hx⟩ : ∃ x : Nat, l = (x : Int) ∧ x < 256 := ⟨l.toNat, by have := iE.1 hl; omega, by have := iE.1 hl; omega⟩
  refine au 9 ?_
  refine ce (fun X : Nat × Nat => X.1 + X.2 ≤ 256) (fun X => [(0, .int .i64 X.1), (3, .int .i64 X.2)]) (fun X => R) (fun X => X.1) (x, 0) ?_ ?_ ?_ ?_
  ·show x + 0 ≤ 256; omega
  ·repeat (first | exact aJ | refine aG rfl ?_)
  ·exact inferInstance
  ·intro ⟨k, n⟩ hk
   dsimp only at hk ⊢
   refine au 7 ?_
   refine ai rfl ?_ ?_
   ·intro c4
    have hk0 : 0 < k := by omega
    have hlt : k &&& (k - 1) ≤ k - 1 := Nat.and_le_right
    refine au 6 ?_
    refine aa rfl (bj rfl rfl (by rw [aK (by omega)]; omega : IntKind.wrap .i64 ((n : Int) + 1) = ((n + 1 : Nat) : Int))) ?_
    refine au 7 ?_
    refine aa rfl (dG rfl rfl (by rw [aK (by omega)]; omega : IntKind.wrap .i64 ((k : Int) - 1) = ((k - 1 : Nat) : Int))) ?_
    refine aa rfl (tM rfl rfl (uP (by omega) (by omega))) ?_
    refine au 3 ?_
    refine bU (k &&& (k - 1), n + 1) ?_ ?_ ?_ ?_
    ·show (k &&& (k - 1)) + (n + 1) ≤ 256; omega
    ·show k &&& (k - 1) < k; omega
    ·repeat (first | exact aJ | refine aG rfl ?_)
    ·exact inferInstance
   ·intro c4
    refine au 12 ?_
    refine ah (.inl rfl) (.cons (ac rfl) .nil) ?_
    exact ⟨_, ⟨(n : Int), rfl, by rw [hl]; simp, rfl⟩, inferInstance⟩
theorem oi (W0 : World) (R : List HP) (l : Int) : ao Tryz.prog W0 178 [.int .i64 l] R (fun v B => v = .bool (dh l) ∧ B = R) := by
 refine aD Tryz.func178 Tryz.ntmps178 rfl rfl ?_
 refine au 10 ?_
 refine bX rfl rfl rfl ?_ ?_
 ·intro g1_3
  refine au 8 ?_
  refine ah (.inl rfl) (.cons (ac rfl) .nil) ?_
  refine ⟨_, ⟨?_, rfl⟩, inferInstance⟩
  refine congrArg Value.bool ?_
  rw [Bool.eq_iff_iff]; simp only [dh, decide_eq_true_eq, Bool.false_eq_true, false_iff]; omega
 ·intro g1_3
  refine au 6 ?_
  refine ah (.inl rfl) (.cons (ac rfl) .nil) ?_
  refine ⟨_, ⟨?_, rfl⟩, inferInstance⟩
  refine congrArg Value.bool ?_
  rw [Bool.eq_iff_iff]; simp only [dh, decide_eq_true_eq, Bool.false_eq_true, false_iff]; omega
theorem uS (W0 : World) (R : List HP) (l c : Nat) (hl : l < 256) (hc : c < 8) : ao Tryz.prog W0 339 [.int .i64 l, .int .i64 c] R (fun v B => v = .bool (l.testBit c) ∧ B = R) := by
 have hd : l / 2 ^ c < 256 := Nat.lt_of_le_of_lt (Nat.div_le_self _ _) hl
 refine aD Tryz.func339 Tryz.ntmps339 rfl rfl ?_
 refine au 9 ?_
 refine aa rfl (nB rfl rfl (by omega) (nJ (k := .i64) (a := l) (s := c) (by show c ≤ 64; omega))) ?_
 refine aa rfl (tM rfl rfl (uP (a := l / 2 ^ c) (b := 1) (by omega) (by decide))) ?_
 refine au 5 ?_
 refine ah (.inl rfl) (.cons (ac rfl) .nil) ?_
 refine ⟨_, ⟨?_, rfl⟩, inferInstance⟩
 refine congrArg Value.bool ?_
 rw [Bool.eq_iff_iff, beq_iff_eq, show (l / 2 ^ c) &&& 1 = l / 2 ^ c % 2 from yW (a := l / 2 ^ c) (n := 1), Nat.testBit_eq_decide_div_mod_eq, decide_eq_true_iff]
 omega
theorem A3 (W0 : World) (R : List HP) (a b : Int) : ao Tryz.prog W0 277 [.int .i64 a, .int .i64 b] R (fun v B => v = .bool (io a b) ∧ B = R) := by
 refine aD Tryz.func277 Tryz.ntmps277 rfl rfl ?_
 refine au 9 ?_
 refine ae rfl (aF t2 rfl (oi W0 _ a)) ?_
 rintro _ B_ ⟨rfl, hB_⟩
 obtain rfl := hB_.symm
 refine au 2 ?_
 refine aZ rfl rfl rfl ?_ ?_
 ·intro g1_4
  refine au 13 ?_
  refine ah (.inl rfl) (.cons (ac rfl) .nil) ?_
  refine ⟨_, ⟨?_, rfl⟩, inferInstance⟩
  rw [od (fun q => by simp_all)]; rfl
 ·intro g1_4
  refine au 2 ?_
  refine ae rfl (aF t2 rfl (oi W0 _ b)) ?_
  rintro _ B_ ⟨rfl, hB_⟩
  obtain rfl := hB_.symm
  refine au 5 ?_
  refine ai rfl ?_ ?_
  ·intro c1
   refine au 7 ?_
   refine ah (.inl rfl) (.cons (ac rfl) .nil) ?_
   refine ⟨_, ⟨?_, rfl⟩, inferInstance⟩
   rw [od (fun q => by simp_all)]; rfl
  ·intro c1
   have ha : dh a = true := by simpa using g1_4
   have hb : dh b = true := by simpa using c1
   obtain ⟨x, rfl, hx⟩ : ∃ x : Nat, a = (x : Int) ∧ x < 256 := ⟨a.toNat, by have := iE.1 ha; omega, by have := iE.1 ha; omega⟩
   obtain ⟨y, rfl, hy⟩ : ∃ y : Nat, b = (y : Int) ∧ y < 256 := ⟨b.toNat, by have := iE.1 hb; omega, by have := iE.1 hb; omega⟩
   refine au 9 ?_
   refine ce (fun i : Nat => i ≤ 8 ∧ ∀ c, c < i → x.testBit c = true → y.testBit c = true) (fun i => [(0, .int .i64 x), (1, .int .i64 y), (5, .int .i64 i)]) (fun i => R) (fun i => 8 - i) 0 ?_ ?_ ?_ ?_
   ·exact ⟨Nat.zero_le _, fun c h => absurd h (Nat.not_lt_zero _)⟩
   ·repeat (first | exact aJ | refine aG rfl ?_)
   ·exact inferInstance
   ·intro i ⟨hi, hI⟩
    refine au 7 ?_
    refine ai rfl ?_ ?_
    ·intro c4
     refine au 8 ?_
     refine ae rfl (aF Tryz.call339 rfl (uS W0 _ x i hx (by omega))) ?_
     rintro _ B_ ⟨rfl, hB_⟩
     obtain rfl := hB_.symm
     refine aa rfl (ag rfl) ?_
     refine bX rfl rfl rfl ?_ ?_
     ·intro g6_4
      refine au 4 ?_
      refine ae rfl (aF Tryz.call339 rfl (uS W0 _ y i hy (by omega))) ?_
      rintro _ B_ ⟨rfl, hB_⟩
      obtain rfl := hB_.symm
      refine au 5 ?_
      refine ai rfl ?_ ?_
      ·intro c6
       refine au 11 ?_
       refine ah (.inl rfl) (.cons (ac rfl) .nil) ?_
       refine ⟨_, ⟨?_, rfl⟩, inferInstance⟩
       refine congrArg Value.bool (Eq.symm ?_)
       rw [← Bool.not_eq_true, io]
       intro q
       simp only [Bool.and_eq_true, decide_eq_true_iff, Int.toNat_natCast] at q
       exact c6 ((uQ hx).1 q.2 i (by omega) g6_4)
      ·intro c6
       refine au 5 ?_
       refine aa rfl (bj rfl rfl (by first | exact aK (by omega) | rfl)) ?_
       refine au 3 ?_
       refine bU (i + 1) ?_ ?_ ?_ ?_
       ·refine ⟨by omega, fun c hc h => ?_⟩
        by_cases e : c = i
        ·subst e
         first
          | exact Decidable.not_not.1 c6
          | exact absurd h g6_4
        ·exact hI c (by omega) h
       ·omega
       ·repeat (first | exact aJ | refine aG rfl ?_)
       ·exact inferInstance
     ·intro g6_4
      refine au 12 ?_
      refine aa rfl (bj rfl rfl (by first | exact aK (by omega) | rfl)) ?_
      refine au 3 ?_
      refine bU (i + 1) ?_ ?_ ?_ ?_
      ·refine ⟨by omega, fun c hc h => ?_⟩
       by_cases e : c = i
       ·subst e
        first
         | exact Decidable.not_not.1 c6
         | exact absurd h g6_4
       ·exact hI c (by omega) h
      ·omega
      ·repeat (first | exact aJ | refine aG rfl ?_)
      ·exact inferInstance
    ·intro c4
     refine au 11 ?_
     refine ah (.inl rfl) (.cons (ac rfl) .nil) ?_
     refine ⟨_, ⟨?_, rfl⟩, inferInstance⟩
     refine congrArg Value.bool (Eq.symm ?_)
     rw [io, ha, hb]
     simp only [Bool.and_self, Bool.true_and, decide_eq_true_iff, Int.toNat_natCast]
     exact (uQ hx).2 fun c hc => hI c (by omega)
section
variable {rd : Option Nat} {P : Program} {S : World → Prop} {W0 : World} {N : FSz} {Q : Exit → Act → World → Prop} {e : bq} {A B R : List HP} {ops : Array Oper} {rest : List Oper}
variable {op : Op} {ty t t' : TypeId} {pos : String} {af : Array Edge} {v u : Value} {d b off : Nat} {x y z : Operand} {l l' vs : List Value} {L : Nat} {xr : RecX}
theorem uT {E n : Nat} {k : IntKind} {i : Int} {j : Nat} (hu : P.underlying t = some (.array n E)) (hs : ∀ w, (sizeOf E).run P w = .ok 1 w) (ha : ∀ w, (isAgg E).run P w = .ok false w) (hx : ev e x = some (.agg l.toArray)) (hy : ev e y = some (.int k i))
  (hi : i = (j : Int)) (hj : j < n) (hl : l[j]? = some v) : bP P S N e (.index t x y) v := fun a w _ _ _ _ _ hF _ => by
 subst hi
 have h1 : (0 : Int) ≤ (j : Int) ∧ (j : Int) < (n : Int) := by omega
 have hlt : j < l.length := by
  rcases Nat.lt_or_ge j l.length with q | q
  ·exact q
  ·rw [List.getElem?_eq_none q] at hl; cases hl
 simp only [execOp, Instr.index, hF.eval hx, hF.eval hy, asIntOf, Sem.run_bind, Sem.run_pure, Result.andThen_ok, dH hu, h1, and_self, if_true, hs, Int.toNat_natCast, Nat.mul_one]
 rw [q9 ha hl]; rfl
theorem uU {c : Code} (h : aE W0 N (c.wpR none P (Exit.noGoto Q)) e A) : aE W0 N ((Code.scope c).wpR none P Q) e A := fun a w hF hO => pP.2 (wp_scope_straight (pP.1 (h a w hF hO)))
instance Jp [h : POk Q] : POk (Exit.noGoto Q) := ⟨fun c a d v w k => h.ok c a d v w k⟩
theorem kl (h : aE W0 N (Ex Q .ret) e A) : aE W0 N (Ex (Exit.noGoto Q) .ret) e A := h
theorem uV {id : Nat} {Post : Value → List HP → Prop} [h : Tk dQ L A xr R] (hp : ∃ B, Post (.bool false) B ∧ Ent (dQ L { xr with st := .done, pe := some (.exit id) } :: R) B) : aE W0 N (Ex (mg P W0 L Post) (.exit id)) e A := by
 intro a w hF hO
 obtain ⟨fn, tmps, h1, h2, hO1⟩ := (hO.tk (r := dQ) (b := L)).loopRec
 obtain ⟨B, hB, hE⟩ := hp
 exact ⟨_, _, run_endRound (some (.exit id)) hO1.has.2, _, B, rfl, hB, Own.ent (Own.toRec (x := { xr with st := .done, pe := some (.exit id) }) h1 h2 (hO1.turn _)) hE⟩
theorem A4 {n gf : Nat} {g : Operand} {ps : Array Tmp} {asg body : Code} {lb : List Value} (id : Nat) (Go Stop : List HP → Prop) (hg : ev e g = some (.func (.func gf) #[] lb.toArray))
  (hc : ∀ args w, (callFunc gf args).run P w = .ok (.enter gf args) w)
  (hs : ∀ L D, ao P W0 gf (.func (.yield L) #[] #[] :: lb) (dQ L ⟨e, n, ps, asg, body, .ready, none, D⟩ :: pt D (.deferred (some [])) :: A)
   (fun _ B => (∃ C, B = dQ L ⟨e, n, ps, asg, body, .ready, none, D⟩ :: pt D (.deferred (some [])) :: C ∧ Go C) ∨ (∃ C, B = dQ L ⟨e, n, ps, asg, body, .done, some (.exit id), D⟩ :: pt D (.deferred (some [])) :: C ∧ Stop C)))
  (hgo : ∀ D C, Go C → aE W0 ⟨n, [jZ D]⟩ (Ex Q .normal) e (pt D (.deferred (some [])) :: C))
  (hstop : ∀ D C, Stop C → aE W0 ⟨n, [jZ D]⟩ (Ex Q (.exit id)) e (pt D (.deferred (some [])) :: C)) :
  aE W0 ⟨n, []⟩ ((Code.rangeFunc g ps asg body).wpR none P Q) e A := by
 intro a w hF hO
 refine wpIn_rangeFunc (F := FW none) (n := 0) ?_
 intro fn _
 have hO1 : Own W0 ((w.alloc (.deferred (some []))).alloc (.loop ((⟨e, n, ps, asg, body, .ready, none, w.heap.size⟩ : RecX).loop fn a.tmps))) (dQ (w.heap.size + 1) ⟨e, n, ps, asg, body, .ready, none, w.heap.size⟩ :: pt w.heap.size (.deferred (some [])) :: A) := by
  refine Own.toRec (fn := fn) hF.size hF.at_ ?_
  have h1 := (hO.new (.deferred (some []))).new (.loop ((⟨e, n, ps, asg, body, .ready, none, w.heap.size⟩ : RecX).loop fn a.tmps))
  have e1 : (w.heap.push (.deferred (some []))).size = w.heap.size + 1 := by simp
  simp only [e1] at h1
  exact h1
 have hent := run_enterLoop_outer (P := P) (w := w) fn a.tmps ps asg body
 generalize hW1 : (w.alloc (.deferred (some []))).alloc (.loop ((⟨e, n, ps, asg, body, .ready, none, w.heap.size⟩ : RecX).loop fn a.tmps)) = W1 at hO1
 rw [show (w.alloc (.deferred (some []))).alloc (.loop { state := .ready, pending := none, fn, tmps := a.tmps, params := ps, assign := asg, body, defers := w.heap.size }) = W1 from hW1] at hent
 have hF' : ∀ D, Fr { a with defers := [jZ D] ++ a.defers } ⟨n, [jZ D]⟩ e := fun D => ⟨by simp [hF.defers], hF.size, hF.at_⟩
 refine ⟨w.heap.size + 1, [{ target := .collected w.heap.size, args := #[] }], W1, { target := .fn (.func gf) lb.toArray, args := #[.func (.yield (w.heap.size + 1)) #[] #[]] }, W1, gf,
  #[.func (.yield (w.heap.size + 1)) #[] #[]] ++ lb.toArray, W1, hent, ?_, fun _ _ => trivial, ?_, fun h => (by cases h), ?_⟩
 ·have hgv := hF.eval hg
  simp only [resolve, hgv]
  simp [go_sem]
 ·simp [invoke, go_sem, hc]
 ·refine pQ.2 ?_
  have e2 : (#[.func (.yield (w.heap.size + 1)) #[] #[]] ++ lb.toArray : Array Value) = (.func (.yield (w.heap.size + 1)) #[] #[] :: lb).toArray := by simp
  rw [e2]
  refine Calls.mono (hs (w.heap.size + 1) w.heap.size _ hO1) ?_
  rintro _ w' ⟨v, B, rfl, hp, hO2⟩
  rcases hp with ⟨C, rfl, hC⟩ | ⟨C, rfl, hC⟩
  ·obtain ⟨fn', tmps', h1, h2, hO3⟩ := hO2.loopRec
   refine ⟨none, _, run_endLoop hO3.has.2 (by simp [RecX.loop]), ?_⟩
   exact hgo _ C hC _ _ (hF' _) (hO3.turn _).drop
  ·obtain ⟨fn', tmps', h1, h2, hO3⟩ := hO2.loopRec
   refine ⟨some (.exit id), _, run_endLoop hO3.has.2 (by simp [RecX.loop]), ?_⟩
   exact wpIn_exit (hstop _ C hC _ _ (hF' _) (hO3.turn _).drop)
theorem A5 {E n c sz : Nat} {a : Option Addr} {ys : List Value} {K : Act → World → Prop} [h : Tk (osl E sz) (.slice a n c) A ys R] (k : n ≤ c ∧ c ≤ maxLen → aE W0 N K e A) : aE W0 N K e A := fun act w hF hO => by
 refine k ?_ act w hF hO
 rcases (hO.tk (r := osl E sz) (b := .slice a n c)).osl with ⟨k1, k2, _⟩ | ⟨g, n', cap, sp, k1, k2, k3, _, _, _⟩
 ·cases k1; simp
 ·cases k1; exact ⟨k2, k3⟩
theorem A6 (n : Nat) : IntKind.wrap .u32 (n : Int) = ((n % 4294967296 : Nat) : Int) := by
 simp only [IntKind.wrap, IntKind.bits, IntKind.signed]; simp
theorem qW {a : Option Addr} {ys : List Value} (h : qK a ys) (hne : ys ≠ []) : ∃ g, a = some ⟨g, 0, none⟩ := by
 rcases h with ⟨_, q⟩ | q
 ·exact absurd q hne
 ·exact q
end
section
variable {rd : Option Nat} {P : Program} {S : World → Prop} {W0 : World} {N : FSz} {Q : Exit → Act → World → Prop} {e : bq} {A B R : List HP} {ops : Array Oper} {rest : List Oper}
variable {op : Op} {ty t t' : TypeId} {pos : String} {af : Array Edge} {v u : Value} {d b off : Nat} {x y z : Operand} {l l' vs : List Value}
variable {α : Type} {sz : Nat} {f : α → List Value} {xs : List α} {a : Option Addr}
theorem uW {k : IntKind} {m n r : Int} {ats : Array TypeId} (hx : ev e x = some (.int k m)) (hy : ev e y = some (.int k n)) (hr : (if n > m then n else m) = r) : bP P S N e (.call { callee := .builtin .max, args := #[x, y], argTypes := ats }) (.int k r) := fun a w _ _ _ _ _ hF _ => by
 simp [execOp, resolve, invoke, builtin, hF.eval hx, hF.eval hy, Builtin.max_, Builtin.max2, hr]
def g8 (a : Option Addr) (c i sz : Nat) : Option Addr := if c = i then a else a.map (·.add (i * sz))
theorem A7 {E n c sz : Nat} {k k' : IntKind} {i h : Nat} {j1 j2 : Int} (hu : P.underlying t = some (.slice E)) (hs : ∀ w, (sizeOf E).run P w = .ok sz w) (hx : ev e x = some (.slice a n c))
  {lo hi : Operand} (h1 : ev e lo = some (.int k j1)) (h2 : ev e hi = some (.int k' j2)) (e1 : j1 = (i : Int)) (e2 : j2 = (h : Int)) (hil : i ≤ h) (hmc : h ≤ c) :
  bP P S N e (.slice t x (some lo) (some hi) none) (.slice (g8 a c i sz) (h - i) (c - i)) := fun act w _ _ _ _ _ hF _ => by
 subst e1; subst e2
 simp [execOp, Instr.sliceAt, Instr.slice, hF.eval hx, hF.eval h1, hF.eval h2, dH hu, Instr.sliceBounds, jz hmc, jz hil, hs, g8]
theorem bT.sub (h : bT S a sz f xs) {c i k : Nat} (hk : i + k ≤ xs.length) (hc : xs.length ≤ c) : bT S (g8 a c i sz) sz f ((xs.drop i).take k) := fun j x hj => by
 have hjk : j < k := by
  rcases Nat.lt_or_ge j k with q | q
  ·exact q
  ·rw [List.getElem?_eq_none (by rw [List.length_take]; omega)] at hj; cases hj
 rw [List.getElem?_take_of_lt hjk, List.getElem?_drop] at hj
 obtain ⟨b, off, rfl, hcl⟩ := h (i + j) x hj
 refine ⟨b, off + i * sz, ?_, ?_⟩
 ·rw [g8, if_neg (by omega)]; simp [f5]
 ·rw [Nat.add_assoc, ← Nat.add_mul]; exact hcl
theorem bT.take (h : bT S a sz f xs) (k : Nat) : bT S a sz f (xs.take k) := fun j x hj => by
 have hjk : j < k := by
  rcases Nat.lt_or_ge j k with q | q
  ·exact q
  ·rw [List.getElem?_eq_none (by rw [List.length_take]; omega)] at hj; cases hj
 rw [List.getElem?_take_of_lt hjk] at hj
 exact h j x hj
theorem bT.src (h : bT S a sz f xs) (hf : ∀ x, (f x).length = sz) (ha : a = none → True) : (xs = []) ∨ ∃ b off, a = some ⟨b, off, none⟩ ∧ cp S b off (xs.flatMap f) := by
 by_cases h0 : xs = []
 ·exact .inl h0
 ·exact .inr (h.all h0 hf)
theorem uX {E n m c cx by_ : Nat} {ay : Option Addr} {info : TypeInfo} {z : Value} {an : Option Addr} {xs news : List Value} (hu : P.underlying t = some (.slice E))
  (hi : P.info? E = some info) (hz : info.zero = some z) (hsz : info.size = sz) (hby : info.bytes = by_) (hz1 : z.cells.size = sz) (hsz0 : 0 < sz)
  (hx : ev e x = some (.slice an n c)) (hy : ev e y = some (.slice ay m cx)) [h : Tk (osl E sz) (.slice an n c) A xs R]
  (hsrc : m = 0 ∨ ∃ bx ox, ay = some ⟨bx, ox, none⟩ ∧ cp (bu W0 A) bx ox news) (hnl : news.length = m * sz) (h1 : ek news = true) (h63 : n + m ≤ maxLen) (hbig : (n + m) * by_ ≤ 140737488355328) :
  cQ P W0 N e A (.call { callee := .builtin .append, args := #[x, y], argTypes := #[t, t] }) (fun v B => ∃ a' c', v = .slice a' (n + m) c' ∧ B = osl E sz v (xs ++ news) :: R) := by
 rcases hsrc with rfl | ⟨bx, ox, rfl, hc⟩
 ·have h0 : news = [] := List.eq_nil_of_length_eq_zero (by simpa using hnl)
  subst h0
  intro act w dst ty pos af g K Q hF hO k
  have hO' := hO.tk (r := osl E sz) (b := .slice an n c)
  have hcap : n ≤ c := by
   rcases hO'.osl with ⟨k1, _, _⟩ | ⟨_, _, _, _, k1, k2, _⟩
   ·cases k1; exact Nat.le_refl _
   ·cases k1; exact k2
  have hrun : (Builtin.append_ #[t, t] ty #[.slice an n c, .slice ay 0 cx]).run P w = .ok (.slice an n c) w := by
   cases an <;> cases ay <;> simp [Builtin.append_, dH hu, sizeOf, typeInfo, hi, Builtin.lenOf, Builtin.firstCells, hcap, loadCells, loadCellsFrom, storeCells]
  unfold Oper.wp
  have hexec : (execOp act.eval { dst := dst, op := .call { callee := .builtin .append, args := #[x, y], argTypes := #[t, t] }, type := ty, pos := pos, after := af, guard := g }).run P w = .ok (.value (.slice an n c)) w := by
   simp only [execOp, resolve, invoke, builtin, Sem.run_bind, Sem.run_pure, Result.andThen_ok, List.map_toArray, List.map_cons, List.map_nil, hF.eval hx, hF.eval hy, hrun]
  rw [hexec]
  exact k _ w _ ⟨an, c, rfl, by rw [List.append_nil]⟩ hO'
 ·exact dy hu hi hz hsz hby hz1 hsz0 hx hy hc hnl h1 h63 hbig
end
section
variable {P : Program} {S : World → Prop} {W0 : World} {N : FSz} {e : bq} {A R : List HP} {t ty : TypeId} {b off : Nat} {x : Operand} {l : List Value}
theorem jC {E n c sz : Nat} {k : IntKind} {i : Nat} {j1 : Int} {a a' : Option Addr} (hu : P.underlying t = some (.slice E)) (hs : ∀ w, (sizeOf E).run P w = .ok sz w) (hx : ev e x = some (.slice a n c))
  {lo : Operand} (h1 : ev e lo = some (.int k j1)) (e1 : j1 = (i : Int)) (hil : i ≤ n) (ha : g8 a c i sz = a') :
  bP P S N e (.slice t x (some lo) none none) (.slice a' (n - i) (c - i)) := fun act w _ _ _ _ _ hF _ => by
 subst e1; subst ha
 simp [execOp, Instr.sliceAt, Instr.slice, hF.eval hx, hF.eval h1, dH hu, Instr.sliceBounds, jz hil, hs, g8]
section
variable {rd : Option Nat} {Q : Exit → Act → World → Prop} {ops : Array Oper} {rest : List Oper} {pos : String} {af : Array Edge} {d : Nat} {y : Operand}
end
end
section
variable {P : Program} {W0 : World} {N : FSz} {e : bq} {A R R1 R2 R3 R4 R5 R6 R7 : List HP} {vs us cs : List Value}
variable {K1 K2 K3 K4 K5 K6 K7 K8 X1 X2 X3 X4 X5 X6 X7 X8 : Type} {r1 : K1 → X1 → HP} {b1 : K1} {x1 : X1} {r2 : K2 → X2 → HP} {b2 : K2} {x2 : X2} {r3 : K3 → X3 → HP} {b3 : K3} {x3 : X3} {r4 : K4 → X4 → HP} {b4 : K4} {x4 : X4} {r5 : K5 → X5 → HP} {b5 : K5} {x5 : X5} {r6 : K6 → X6 → HP} {b6 : K6} {x6 : X6} {r7 : K7 → X7 → HP} {b7 : K7} {x7 : X7} {r8 : K8 → X8 → HP} {b8 : K8} {x8 : X8}
variable {f : FuncId} {xs : Array Operand} {ats : Array TypeId} {Post : Value → List HP → Prop}
end
def sV (s : ByteArray) : Value := .string s
def uY (l : List ByteArray) : List Value := l.map sV
structure Prt where
  lab : Int
  gu : Int
  l : List ByteArray
instance : Inhabited Prt := ⟨⟨0, 0, []⟩⟩
def oj (p : Value × Prt) : List Value := [.int .i64 p.2.lab, .int .i64 p.2.gu, p.1]
def jD (p : Value × Prt) : HP := osl 9 1 p.1 (uY p.2.l)
def ol (p : Nat) (ps : List Prt) : HP := chk (fun C => ∃ a c, ∃ vs : List Value, vs.length = ps.length ∧ C = [pt p (aj [.slice a ps.length c, .bool true] 313), osl 315 3 (.slice a ps.length c) ((vs.zip ps).flatMap oj), kH 2 (aX ((vs.zip ps).map jD))])
section
variable {P : Program} {W0 : World} {N : FSz} {K : Act → World → Prop} {e : bq} {A B R R1 R2 R3 R4 : List HP} {p g n : Nat} {ps : List Prt} {f : FuncId} {args : List Value} {Post : Value → List HP → Prop}
theorem uZ {α : Type} : ∀ (l : List α) (i : Nat) (h : i < l.length), l.Perm (l[i] :: l.eraseIdx i)
 | x :: l, 0, h => by simp
 | x :: l, i + 1, h => by
  simp only [List.getElem_cons_succ, List.eraseIdx_cons_succ]
  exact ((uZ l i (by simpa using h)).cons x).trans (List.Perm.swap _ _ _)
theorem v4 {α : Type} : ∀ (l : List α) (i : Nat) (x : α) (h : i < l.length), (x :: l.eraseIdx i).Perm (l.set i x)
 | y :: l, 0, x, h => by simp
 | y :: l, i + 1, x, h => by
  simp only [List.set_cons_succ, List.eraseIdx_cons_succ]
  exact (List.Perm.swap _ _ _).trans ((v4 l i x (by simpa using h)).cons y)
theorem qX {L : List HP} {i : Nat} (h : i < L.length) : Ent (kH 2 (aX L) :: R) (L[i] :: kH 3 (aX (L.eraseIdx i)) :: R) := by
 refine (hM (A := L) (R := R)).trans ?_
 refine (Ent.ofPerm ((uZ L i h).append_right R)).trans ?_
 exact Ent.cons fC
theorem A8 {L : List HP} {i : Nat} {x : HP} (h : i < L.length) : Ent (x :: kH 3 (aX (L.eraseIdx i)) :: R) (kH 2 (aX (L.set i x)) :: R) := by
 refine (Ent.cons hM).trans ?_
 exact (Ent.ofPerm ((v4 L i x h).append_right R)).trans fC
theorem A9 {a : Option Addr} {c : Nat} {vs : List Value} [h1 : Tk pt p A (aj [.slice a n c, .bool true] 313) R1] [h2 : Tk (osl 315 3) (.slice a n c) R1 ((vs.zip ps).flatMap oj) R2] [h3 : Tk kH 2 R2 (aX ((vs.zip ps).map jD)) R3] (hv : vs.length = ps.length) (hn : n = ps.length) [k : Ent R3 B] : Ent A (ol p ps :: B) := by
 subst hn
 have e1 : A.Perm ([pt p (aj [.slice a ps.length c, .bool true] 313), osl 315 3 (.slice a ps.length c) ((vs.zip ps).flatMap oj), kH 2 (aX ((vs.zip ps).map jD))] ++ R3) := h1.perm.trans ((h2.perm.trans (h3.perm.cons _)).cons _)
 exact (Ent.ofPerm e1).trans ((eF (R := R3) ⟨a, c, vs, hv, rfl⟩).trans (Ent.cons k))
end
theorem qY {vs : List Value} {i : Nat} {v : Value} (h : vs[i]? = some v) : vs.set i v = vs := by
 have hi : i < vs.length := by
  rcases Nat.lt_or_ge i vs.length with k | k
  ·exact k
  ·rw [List.getElem?_eq_none k] at h; cases h
 have : vs[i] = v := by simpa [hi] using h
 rw [← this]; exact List.set_getElem_self _
@[reducible] def dm (x : Int × Bool) : List Value := [.int .i64 x.1, .bool x.2]
theorem om (x : Int × Bool) : (dm x).length = 2 := rfl
@[reducible] def fq (n : Nat) : List Value := [.int .i64 (n : Int)]
theorem gO (n : Nat) : (fq n).length = 1 := rfl
def cY (p : Value × List Nat) : HP := osl 3 1 p.1 (p.2.flatMap fq)
@[reducible] def dZ (ps : Nat) (sv : Value) (vs : List Value) : List Value := .pointer (some ⟨ps, 0, none⟩) :: sv :: vs
theorem v5 (ps w : Nat) (sv v : Value) (vs : List Value) : (dZ ps sv vs).set (2 + w * 1) v = dZ ps sv (vs.set w v) := by
 rw [show 2 + w * 1 = w + 1 + 1 by omega]; rfl
abbrev eY (w : Nat) : Nat → List Nat × List Value → HP := jB 399 3 1 fq (2 + w * 1)
def cH (pb : Nat) (x : Nat × Po) : HP := chk (fun C => ∃ a c vs Ls, vs.length = 16 ∧ LsOk x.2 Ls ∧ C = [pt pb (aj (dZ x.1 (.slice a x.2.length c) vs) 399), osl 393 2 (.slice a x.2.length c) (x.2.flatMap dm), kH 2 (aX ((vs.zip Ls).map cY))])
theorem Aa {F : List HP → Prop} {R B : List HP} (h : ∀ C, F C → Ent (C ++ R) B) : Ent (chk F :: R) B := ⟨fun l hl => by
 obtain ⟨l1, l2, rfl, ⟨C, hC, hs⟩, h2⟩ := hl
 exact (h C hC).out _ (eU.append.2 ⟨l1, l2, rfl, hs, h2⟩)⟩
section
variable {P : Program} {W0 : World} {N : FSz} {K : Act → World → Prop} {e : bq} {A B R R1 R2 R3 : List HP} {pb ps w n : Nat} {po : Po} {f : FuncId} {args : List Value} {Post : Value → List HP → Prop}
theorem oo [hk : Tk cH pb A (ps, po) R] (h : ∀ a c vs Ls, vs.length = 16 → LsOk po Ls → aE W0 N K e (pt pb (aj (dZ ps (.slice a po.length c) vs) 399) :: osl 393 2 (.slice a po.length c) (po.flatMap dm) :: kH 2 (aX ((vs.zip Ls).map cY)) :: R)) : aE W0 N K e A :=
 dP (r := cH) (b := pb) (iU fun C hC => by obtain ⟨a, c, vs, Ls, h1, h2, rfl⟩ := hC; exact h a c vs Ls h1 h2)
theorem v6 (h : ∀ a c vs Ls, vs.length = 16 → LsOk po Ls → ao P W0 f args (pt pb (aj (dZ ps (.slice a po.length c) vs) 399) :: osl 393 2 (.slice a po.length c) (po.flatMap dm) :: kH 2 (aX ((vs.zip Ls).map cY)) :: R) Post) : ao P W0 f args (cH pb (ps, po) :: R) Post :=
 md fun C hC => by obtain ⟨a, c, vs, Ls, h1, h2, rfl⟩ := hC; exact h a c vs Ls h1 h2
theorem lc {a : Option Addr} {c : Nat} {vs xs : List Value} {Ls : List (List Nat)} {sv : Value} [h1 : Tk pt pb A (aj (dZ ps sv vs) 399) R1] [h2 : Tk (osl 393 2) sv R1 xs R2] [h3 : Tk kH 2 R2 (aX ((vs.zip Ls).map cY)) R3]
  (hs : sv = .slice a n c) (hv : vs.length = 16) (hL : LsOk po Ls) (hn : n = po.length) (hx : xs = po.flatMap dm) [k : Ent R3 B] : Ent A (cH pb (ps, po) :: B) := by
 subst hs; subst hn; subst hx
 exact (Ent.ofPerm (h1.perm.trans ((h2.perm.trans (h3.perm.cons _)).cons _))).trans ((Ent.cons (Ent.cons (Ent.cons k))).trans (eF (R := B) (C := [_, _, _]) ⟨a, c, vs, Ls, hv, hL, rfl⟩))
theorem qZ {sv : Value} {vs : List Value} {Ls : List (List Nat)} (hw : w < 16) (hv : vs.length = 16) (hL : Ls.length = 16) :
  Ent (pt pb (aj (dZ ps sv vs) 399) :: kH 2 (aX ((vs.zip Ls).map cY)) :: R) (eY w pb (Ls.getD w [], dZ ps sv vs) :: kH 3 (aX (((vs.zip Ls).map cY).eraseIdx w)) :: R) := by
 have hlen : ((vs.zip Ls).map cY).length = 16 := by simp [hv, hL]
 have hg : ((vs.zip Ls).map cY)[w]'(by omega) = osl 3 1 (vs.getD w undef) ((Ls.getD w []).flatMap fq) := by
  simp [cY, List.getD, show w < vs.length by omega, show w < Ls.length by omega]
 have e2 := qX (L := (vs.zip Ls).map cY) (R := R) (i := w) (by omega)
 rw [hg] at e2
 refine (Ent.cons e2).trans ?_
 generalize hvw : vs.getD w undef = v
 have hvs : vs[w]? = some v := by rw [← hvw]; simp [List.getD, show w < vs.length by omega]
 refine ⟨fun l hl => ?_⟩
 obtain ⟨l1, l2, rfl, h1, l3, l4, rfl, h3, h4⟩ := hl
 have key : ∀ a c, v = .slice a (Ls.getD w []).length c → ∃ l' r, eU (eY w pb (Ls.getD w [], dZ ps sv vs) :: kH 3 (aX (((vs.zip Ls).map cY).eraseIdx w)) :: R) l' ∧ (l1 ++ (l3 ++ l4)).Perm (l' ++ r) := fun a c hva => by
  have hcs : (dZ ps sv vs).set (2 + w * 1) (.slice a (Ls.getD w []).length c) = dZ ps sv vs := by
   rw [← hva, v5, qY hvs]
  refine ⟨(l1 ++ l3) ++ l4, [], ⟨l1 ++ l3, l4, rfl, ⟨_, ⟨by simp [dZ, hv]; omega, a, c, rfl⟩, ?_⟩, h4⟩, by simp⟩
  rw [hcs, ← hva]
  exact ⟨l1, l3, rfl, h1, l3, [], by simp, h3, rfl⟩
 rcases id h3 with ⟨k1, k2, _⟩ | ⟨g, n, cap, sp, k1, _, _, k4, _, _⟩
 ·have hl0 : (Ls.getD w []).length = 0 := by
   have := congrArg List.length k2
   rw [cX gO] at this; simpa using this
  exact key none 0 (by rw [k1, hl0])
 ·have hl0 : (Ls.getD w []).length = n := by rw [cX gO] at k4; omega
  exact key (some ⟨g, 0, none⟩) cap (by rw [k1, hl0])
theorem r0 {a : Option Addr} {c : Nat} {sv : Value} {vs : List Value} {Ls : List (List Nat)} {l : List Nat} {po' : Po} (hw : w < 16) (hv : vs.length = 16) (hs : sv = .slice a n c) (hn : n = po'.length) (hL : Ls.length = 16) (hk : LsOk po' (Ls.set w l)) :
  Ent (eY w pb (l, dZ ps sv vs) :: osl 393 2 sv (po'.flatMap dm) :: kH 3 (aX (((vs.zip Ls).map cY).eraseIdx w)) :: R) (cH pb (ps, po') :: R) := by
 refine Aa fun C hC => ?_
 obtain ⟨ho, a2, c2, rfl⟩ := hC
 have hcs : (dZ ps sv vs).set (2 + w * 1) (.slice a2 l.length c2) = dZ ps sv (vs.set w (.slice a2 l.length c2)) := v5 ..
 dsimp only
 rw [hcs]
 have hlen : ((vs.zip Ls).map cY).length = 16 := by simp [hv, hL]
 have hset : ((vs.set w (.slice a2 l.length c2)).zip (Ls.set w l)).map cY = ((vs.zip Ls).map cY).set w (cY (.slice a2 l.length c2, l)) := by
  apply List.ext_getElem
  ·simp
  ·intro j h1 h2
   by_cases e : j = w
   ·subst e; simp
   ·have e' : ¬ w = j := fun h => e h.symm
    simp [List.getElem_set, e']
 have e2 : Ent (cY (.slice a2 l.length c2, l) :: kH 3 (aX (((vs.zip Ls).map cY).eraseIdx w)) :: R) (kH 2 (aX (((vs.set w (.slice a2 l.length c2)).zip (Ls.set w l)).map cY)) :: R) := by
  rw [hset]; exact A8 (by omega)
 refine (Ent.ofPerm ((List.Perm.swap _ _ _).cons _)).trans ?_
 refine (Ent.cons (Ent.cons e2)).trans ?_
 exact lc (vs := vs.set w (.slice a2 l.length c2)) hs (by simpa using hv) hk hn rfl
end
theorem v7 (po : Po) (sp : List Value) (i j : Nat) (hi : i < po.length) (hj : j < 2) : (po.flatMap dm ++ sp)[i * 2 + j]? = (dm (cC po i))[j]? := by
 rw [jf om po i j sp hi hj]; simp [cC, List.getD, hi]
theorem Ab (po : Po) (sp : List Value) (i : Nat) (v : Int) (hi : i < po.length) : (po.flatMap dm ++ sp).set (i * 2 + 0) (.int .i64 v) = (po.set i (v, (cC po i).2)).flatMap dm ++ sp :=
 mb om po i 0 _ _ sp hi (by decide) (by simp [cC, List.getD, hi, dm])
theorem v8 (po : Po) (sp : List Value) (i : Nat) (v : Bool) (hi : i < po.length) : (po.flatMap dm ++ sp).set (i * 2 + 1) (.bool v) = (po.set i ((cC po i).1, v)).flatMap dm ++ sp :=
 mb om po i 1 _ _ sp hi (by decide) (by simp [cC, List.getD, hi, dm])
theorem ip (po : Po) : (po.flatMap dm).length = po.length * 2 := cX om po
abbrev jE (pb w : Nat) : Value := .pointer (some ⟨pb, 2 + w * 1, none⟩)
theorem km {its : List Nat} {sp : List Value} {i : Nat} (hi : i < its.length) : (its.flatMap fq ++ sp)[i * 1]? = some (.int .i64 ((its.getD i default : Nat) : Int)) := by
 have := jf gO its i 0 sp hi (by decide)
 rw [Nat.add_zero] at this
 rw [this]; simp [fq, List.getD, hi]
theorem oq {its : List Nat} {sp : List Value} {i x : Nat} (hi : i < its.length) : (its.flatMap fq ++ sp).set (i * 1) (.int .i64 (x : Int)) = (its.set i x).flatMap fq ++ sp := by
 have := mb gO its i 0 (.int .i64 (x : Int)) x sp hi (by decide) (by simp [fq])
 rwa [Nat.add_zero] at this
theorem ot {its : List Nat} {sp : List Value} {i : Nat} (hi : i < its.length) : i * 1 + 1 ≤ (its.flatMap fq ++ sp).length := A0 gO its sp i hi
theorem r9 (W0 : World) (R : List HP) (pb w : Nat) (its : List Nat) (cs : List Value) :
  ao Tryz.prog W0 281 [jE pb w] (eY w pb (its, cs) :: R) (fun v B => v = .int .i64 (its.length : Nat) ∧ B = eY w pb (its, cs) :: R) := by
 refine qM fun a c ho => ?_
 refine aD Tryz.func281 Tryz.ntmps281 rfl rfl ?_
 refine au 10 ?_
 refine aa rfl (am gV rfl (aH (im ho))) ?_
 refine au 5 ?_
 refine ah (.inl rfl) (.cons (ac rfl) .nil) ?_
 exact ⟨_, ⟨rfl, rfl⟩, qN rfl rfl ho rfl⟩
theorem Ac (W0 : World) (R : List HP) (pb w : Nat) (its : List Nat) (cs : List Value) (i k : Nat) (hi : i < its.length) (hk : k < its.length) :
  ao Tryz.prog W0 488 [jE pb w, .int .i64 i, .int .i64 k] (eY w pb (its, cs) :: R) (fun v B => v = .bool (decide (Hp.us its i < Hp.us its k)) ∧ B = eY w pb (its, cs) :: R) := by
 refine qP gO (by intro e; subst e; simp at hi) (by decide) fun g c sp ho h1 h2 h3 => ?_
 refine aD Tryz.func488 Tryz.ntmps488 rfl rfl ?_
 refine au 6 ?_
 refine bR [(pb, 0, _), (g, 0, _)] 16 bQ rfl (aC (aC aB)) (fun hS => ?_)
 refine ab 0 rfl rfl rfl hS (ag rfl) ?_
 refine ab 1 rfl rfl rfl hS (aU rfl) ?_
 refine ab 2 rfl rfl rfl hS (ap rfl js rfl eM rfl (by first | exact Nat.zero_add _ | rfl)) ?_
 refine ab 3 rfl rfl rfl hS (am gV rfl (av (k := 0) rfl (im ho))) ?_
 refine ab 4 rfl rfl rfl hS (ag rfl) ?_
 refine ab 5 rfl rfl rfl hS (bM dF ar rfl rfl rfl hi (by first | exact Nat.zero_add _ | rfl)) ?_
 refine ab 6 rfl rfl rfl hS (am aT rfl (av (k := 1) rfl (km hi))) ?_
 refine ab 7 rfl rfl rfl hS (ag rfl) ?_
 refine ab 8 rfl rfl rfl hS (aU rfl) ?_
 refine ab 9 rfl rfl rfl hS (ap rfl js rfl eM rfl (by first | exact Nat.zero_add _ | rfl)) ?_
 refine ab 10 rfl rfl rfl hS (am gV rfl (av (k := 0) rfl (im ho))) ?_
 refine ab 11 rfl rfl rfl hS (ag rfl) ?_
 refine ab 12 rfl rfl rfl hS (bM dF ar rfl rfl rfl hk (by first | exact Nat.zero_add _ | rfl)) ?_
 refine ab 13 rfl rfl rfl hS (am aT rfl (av (k := 1) rfl (km hk))) ?_
 refine ab 14 rfl rfl rfl hS (eO rfl rfl) ?_
 refine ab 15 rfl rfl rfl hS (ax rfl) ?_
 refine bz (by kernel_rfl) ?_; clear hS
 refine au 2 ?_
 refine ah (.inl rfl) (.cons (ac rfl) .nil) ?_
 exact ⟨_, ⟨rfl, rfl⟩, o9 gO rfl rfl ho rfl h1 h2 h3⟩
theorem Ad (W0 : World) (R : List HP) (pb w : Nat) (its : List Nat) (cs : List Value) (i k : Nat) (hi : i < its.length) (hk : k < its.length) :
  ao Tryz.prog W0 491 [jE pb w, .int .i64 i, .int .i64 k] (eY w pb (its, cs) :: R) (fun v B => v = .tuple #[] ∧ B = eY w pb (Hp.swapL its i k, cs) :: R) := by
 refine qP gO (by intro e; subst e; simp at hi) (by decide) fun g c sp ho h1 h2 h3 => ?_
 refine aD Tryz.func491 Tryz.ntmps491 rfl rfl ?_
 refine bR [(pb, 0, _)] 28 bQ rfl (aC aB) (fun hS => ?_)
 refine ab 0 rfl rfl rfl hS (ag rfl) ?_
 refine ab 1 rfl rfl rfl hS (aU rfl) ?_
 refine ab 2 rfl rfl rfl hS (ap rfl js rfl eM rfl (by first | exact Nat.zero_add _ | rfl)) ?_
 refine ab 3 rfl rfl rfl hS (am gV rfl (av (k := 0) rfl (im ho))) ?_
 refine ab 4 rfl rfl rfl hS (ag rfl) ?_
 refine ab 5 rfl rfl rfl hS (ag rfl) ?_
 refine ab 6 rfl rfl rfl hS (aU rfl) ?_
 refine ab 7 rfl rfl rfl hS (ap rfl js rfl eM rfl (by first | exact Nat.zero_add _ | rfl)) ?_
 refine ab 8 rfl rfl rfl hS (am gV rfl (av (k := 0) rfl (im ho))) ?_
 refine ab 9 rfl rfl rfl hS (ag rfl) ?_
 refine ab 10 rfl rfl rfl hS (ag rfl) ?_
 refine ab 11 rfl rfl rfl hS (aU rfl) ?_
 refine ab 12 rfl rfl rfl hS (ap rfl js rfl eM rfl (by first | exact Nat.zero_add _ | rfl)) ?_
 refine ab 13 rfl rfl rfl hS (am gV rfl (av (k := 0) rfl (im ho))) ?_
 refine ab 14 rfl rfl rfl hS (ag rfl) ?_
 refine ab 15 rfl rfl rfl hS (bM dF ar rfl rfl rfl hk (by first | exact Nat.zero_add _ | rfl)) ?_
 refine ab 17 rfl rfl rfl hS (ag rfl) ?_
 refine ab 18 rfl rfl rfl hS (aU rfl) ?_
 refine ab 19 rfl rfl rfl hS (ap rfl js rfl eM rfl (by first | exact Nat.zero_add _ | rfl)) ?_
 refine ab 20 rfl rfl rfl hS (am gV rfl (av (k := 0) rfl (im ho))) ?_
 refine ab 21 rfl rfl rfl hS (ag rfl) ?_
 refine ab 22 rfl rfl rfl hS (bM dF ar rfl rfl rfl hi (by first | exact Nat.zero_add _ | rfl)) ?_
 refine i6 (is := [16, 23]) (by kernel_rfl) rfl ⟨?_, ?_, trivial⟩
 ·skip
  refine ed rfl rfl (ec (am aT rfl (aH (km hk)))) rfl ?_; clear hS
  rintro _ _ ⟨rfl, rfl⟩
  refine ⟨(aC aB), fun hS => ?_⟩
  refine aW 23 (by kernel_rfl) rfl rfl (ec (am aT rfl (aH (km hi)))) rfl ?_; clear hS
  rintro _ _ ⟨rfl, rfl⟩
  refine ⟨(aC aB), fun hS => ?_⟩
  refine ab 24 rfl rfl rfl hS (bM dF ar rfl rfl rfl hi (by first | exact Nat.zero_add _ | rfl)) ?_
  refine aW 25 (by kernel_rfl) rfl rfl (bN ar rfl rfl rfl (ot hi) (oq hi)) rfl ?_; clear hS
  rintro _ _ rfl
  refine ⟨(aC aB), fun hS => ?_⟩
  refine ab 26 rfl rfl rfl hS (bM dF ar rfl rfl rfl hk (by first | exact Nat.zero_add _ | rfl)) ?_
  refine aW 27 (by kernel_rfl) rfl rfl (bN ar rfl rfl rfl (ot (by simpa using hk)) (oq (by simpa using hk))) rfl ?_; clear hS
  rintro _ _ rfl
  refine ⟨(aC aB), fun hS => ?_⟩
  refine bz (by kernel_rfl) ?_; clear hS
  refine ah (.inr rfl) .nil ?_
  exact ⟨_, ⟨rfl, rfl⟩, o9 gO rfl rfl ho (by simp [Hp.swapL]) (by simpa [Hp.swapL] using h1) h2 (by rw [List.length_append, cX gO] at h3 ⊢; simpa [Hp.swapL] using h3)⟩
 ·skip
  refine ed rfl rfl (ec (am aT rfl (aH (km hi)))) rfl ?_; clear hS
  rintro _ _ ⟨rfl, rfl⟩
  refine ⟨(aC aB), fun hS => ?_⟩
  refine aW 16 (by kernel_rfl) rfl rfl (ec (am aT rfl (aH (km hk)))) rfl ?_; clear hS
  rintro _ _ ⟨rfl, rfl⟩
  refine ⟨(aC aB), fun hS => ?_⟩
  refine ab 24 rfl rfl rfl hS (bM dF ar rfl rfl rfl hi (by first | exact Nat.zero_add _ | rfl)) ?_
  refine aW 25 (by kernel_rfl) rfl rfl (bN ar rfl rfl rfl (ot hi) (oq hi)) rfl ?_; clear hS
  rintro _ _ rfl
  refine ⟨(aC aB), fun hS => ?_⟩
  refine ab 26 rfl rfl rfl hS (bM dF ar rfl rfl rfl hk (by first | exact Nat.zero_add _ | rfl)) ?_
  refine aW 27 (by kernel_rfl) rfl rfl (bN ar rfl rfl rfl (ot (by simpa using hk)) (oq (by simpa using hk))) rfl ?_; clear hS
  rintro _ _ rfl
  refine ⟨(aC aB), fun hS => ?_⟩
  refine bz (by kernel_rfl) ?_; clear hS
  refine ah (.inr rfl) .nil ?_
  exact ⟨_, ⟨rfl, rfl⟩, o9 gO rfl rfl ho (by simp [Hp.swapL]) (by simpa [Hp.swapL] using h1) h2 (by rw [List.length_append, cX gO] at h3 ⊢; simpa [Hp.swapL] using h3)⟩
theorem Ae (W0 : World) (R : List HP) (pb w : Nat) (its : List Nat) (x : Nat) (cs : List Value) :
  ao Tryz.prog W0 489 [jE pb w] (eY w pb (its ++ [x], cs) :: R) (fun v B => v = .iface 3 (.int .i64 (x : Int)) ∧ B = eY w pb (its, cs) :: R) := by
 refine qP gO (by simp) (by decide) fun g c sp ho h1 h2 h3 => ?_
 have hl : (its ++ [x]).length = its.length + 1 := by simp
 rw [hl] at h1 ⊢
 have hg : (its ++ [x]).getD its.length default = x := by simp [List.getD]
 have he : (its ++ [x]).flatMap fq ++ sp = its.flatMap fq ++ (fq x ++ sp) := by simp
 have hget := km (its := its ++ [x]) (sp := sp) (i := its.length) (by omega)
 rw [hg] at hget
 refine aD Tryz.func489 Tryz.ntmps489 rfl rfl ?_
 refine au 10 ?_
 refine aa rfl (am gV rfl (aH (im ho))) ?_
 refine aa rfl (dU dF rfl) ?_
 refine aa rfl (dG rfl rfl (by rw [aK (by simp only [maxLen] at h2; omega)]; omega : IntKind.wrap .i64 (((its.length + 1 : Nat) : Int) - 1) = ((its.length : Nat) : Int))) ?_
 refine au 8 ?_
 refine aa rfl (am gV rfl (aH (im ho))) ?_
 refine aa rfl (ag rfl) ?_
 refine aa rfl (bM dF ar rfl rfl rfl (by omega) (by first | exact Nat.zero_add _ | rfl)) ?_
 refine aa rfl (am aT rfl (aH hget)) ?_
 refine au 9 ?_
 refine aa rfl (am gV rfl (aH (im ho))) ?_
 refine aa rfl (ag rfl) ?_
 refine aa rfl (kb dF ar rfl rfl rfl (by omega)) ?_
 refine au 2 ?_
 refine b0 (bN eM rfl rfl rfl (by rw [List.length_set]; exact ho) set_set) ?_
 rintro _ _ rfl
 refine au 5 ?_
 refine aa rfl (ka dN (fun _ h => nomatch h) rfl) ?_
 refine au 4 ?_
 refine ah (.inl rfl) (.cons (ac rfl) .nil) ?_
 rw [he]
 exact ⟨_, ⟨rfl, rfl⟩, o9 (sp := fq x ++ sp) gO rfl rfl ho rfl (by omega) h2 (by rw [← he]; exact h3)⟩
theorem Af (W0 : World) (R : List HP) (pb w : Nat) (its : List Nat) (x : Nat) (cs : List Value) (hn : its.length < 1000) :
  ao Tryz.prog W0 490 [jE pb w, .iface 3 (.int .i64 (x : Int))] (eY w pb (its, cs) :: R) (fun v B => v = .tuple #[] ∧ B = eY w pb (its ++ [x], cs) :: R) := by
 refine qM fun a c ho => ?_
 have he : its.flatMap fq ++ [Value.int .i64 (x : Int)] = (its ++ [x]).flatMap fq := by simp
 refine aD Tryz.func490 Tryz.ntmps490 rfl rfl ?_
 refine bR [] 12 bQ rfl aB (fun hS => ?_)
 refine ab 0 rfl rfl rfl hS (ag rfl) ?_
 refine ab 1 rfl rfl rfl hS (ag rfl) ?_
 refine ab 2 rfl rfl rfl hS (aU rfl) ?_
 refine ab 3 rfl rfl rfl hS (ap rfl js rfl eM rfl (by first | exact Nat.zero_add _ | rfl)) ?_
 refine ab 5 rfl rfl rfl hS (ag rfl) ?_
 refine ab 6 rfl rfl rfl hS (nS dN (fun _ h => nomatch h) rfl) ?_
 refine i6 (is := [4, 7]) (by kernel_rfl) rfl ⟨?_, ?_, trivial⟩
 ·skip
  refine ed rfl rfl (ec (am gV rfl (aH (im ho)))) rfl ?_; clear hS
  rintro _ _ ⟨rfl, rfl⟩
  refine ⟨aB, fun hS => ?_⟩
  refine aW 7 (by kernel_rfl) rfl rfl (g6 dF ar lP rfl rfl rfl rfl rfl (by decide) (by decide)) rfl ?_; clear hS
  rintro _ _ ⟨b1, rfl, rfl⟩
  refine ⟨aB, fun hS => ?_⟩
  refine aW 8 (by kernel_rfl) rfl rfl (dy (sz := 1) (by_ := 8) (info := Tryz.t3) dF (by kernel_rfl) rfl rfl rfl rfl (by decide) rfl rfl dz rfl rfl (by simp only [maxLen]; omega) (by omega)) rfl ?_; clear hS
  rintro _ _ ⟨a1, c1, rfl, rfl⟩
  refine ⟨aB, fun hS => ?_⟩
  refine ab 9 rfl rfl rfl hS (aU rfl) ?_
  refine ab 10 rfl rfl rfl hS (ap rfl js rfl eM rfl (by first | exact Nat.zero_add _ | rfl)) ?_
  refine aW 11 (by kernel_rfl) rfl rfl (bN eM rfl rfl rfl (by rw [List.length_set]; exact ho) set_set) rfl ?_; clear hS
  rintro _ _ rfl
  refine ⟨aB, fun hS => ?_⟩
  refine bz (by kernel_rfl) ?_; clear hS
  refine ah (.inr rfl) .nil ?_
  exact ⟨_, ⟨rfl, rfl⟩, qN (its := its ++ [x]) he rfl ho (by simp)⟩
 ·skip
  refine ed rfl rfl (g6 dF ar lP rfl rfl rfl rfl rfl (by decide) (by decide)) rfl ?_; clear hS
  rintro _ _ ⟨b1, rfl, rfl⟩
  refine ⟨aB, fun hS => ?_⟩
  refine aW 4 (by kernel_rfl) rfl rfl (ec (am gV rfl (aH (im ho)))) rfl ?_; clear hS
  rintro _ _ ⟨rfl, rfl⟩
  refine ⟨aB, fun hS => ?_⟩
  refine aW 8 (by kernel_rfl) rfl rfl (dy (sz := 1) (by_ := 8) (info := Tryz.t3) dF (by kernel_rfl) rfl rfl rfl rfl (by decide) rfl rfl dz rfl rfl (by simp only [maxLen]; omega) (by omega)) rfl ?_; clear hS
  rintro _ _ ⟨a1, c1, rfl, rfl⟩
  refine ⟨aB, fun hS => ?_⟩
  refine ab 9 rfl rfl rfl hS (aU rfl) ?_
  refine ab 10 rfl rfl rfl hS (ap rfl js rfl eM rfl (by first | exact Nat.zero_add _ | rfl)) ?_
  refine aW 11 (by kernel_rfl) rfl rfl (bN eM rfl rfl rfl (by rw [List.length_set]; exact ho) set_set) rfl ?_; clear hS
  rintro _ _ rfl
  refine ⟨aB, fun hS => ?_⟩
  refine bz (by kernel_rfl) ?_; clear hS
  refine ah (.inr rfl) .nil ?_
  exact ⟨_, ⟨rfl, rfl⟩, qN (its := its ++ [x]) he rfl ho (by simp)⟩
section
variable (w : World) (a : Addr)
theorem Ag : (method (Tryz.prog.types.size + Made.depth) 427 (.pointer (some a)) "Len").run Tryz.prog w = .ok (281, .pointer (some a)) w := by kernel_rfl
theorem Ah : (method (Tryz.prog.types.size + Made.depth) 427 (.pointer (some a)) "Less").run Tryz.prog w = .ok (488, .pointer (some a)) w := by kernel_rfl
theorem Ai : (method (Tryz.prog.types.size + Made.depth) 427 (.pointer (some a)) "Swap").run Tryz.prog w = .ok (491, .pointer (some a)) w := by kernel_rfl
theorem Aj : (method (Tryz.prog.types.size + Made.depth) 427 (.pointer (some a)) "Push").run Tryz.prog w = .ok (490, .pointer (some a)) w := by kernel_rfl
theorem Ak : (method (Tryz.prog.types.size + Made.depth) 427 (.pointer (some a)) "Pop").run Tryz.prog w = .ok (489, .pointer (some a)) w := by kernel_rfl
end
def v9 (W0 : World) (pb w : Nat) (cs : List Value) : HpO W0 Nat where
  T := 427
  p := jE pb w
  el := fun x => .iface 3 (.int .i64 (x : Int))
  H := fun l => eY w pb (l, cs)
  fL := 281
  fE := 488
  fS := 491
  fU := 490
  fO := 489
  mL := fun u => Ag u _
  mE := fun u => Ah u _
  mS := fun u => Ai u _
  mU := fun u => Aj u _
  mO := fun u => Ak u _
  cL := xW
  cE := Tryz.call488
  cS := Tryz.call491
  cU := Tryz.call490
  cO := Tryz.call489
  sL := fun R l => r9 W0 R pb w l cs
  sE := fun R l i j hi hj => Ac W0 R pb w l cs i j hi hj
  sS := fun R l i j hi hj => Ad W0 R pb w l cs i j hi hj
  sU := fun R l x hl => Af W0 R pb w l x cs hl
  sO := fun R l x => Ae W0 R pb w l x cs
theorem Al (W0 : World) (R : List HP) (pb w : Nat) (its : List Nat) (x : Nat) (cs : List Value) (hN : its.length < 900) (hh : Hp.Heap its its.length) :
  ao Tryz.prog W0 152 [.iface 427 (jE pb w), .iface 3 (.int .i64 (x : Int))] (eY w pb (its, cs) :: R) (fun v B => v = .tuple #[] ∧ ∃ its', B = eY w pb (its', cs) :: R ∧ its'.Perm (its ++ [x]) ∧ Hp.Heap its' its'.length) :=
 Hp.heapPush_spec (v9 W0 pb w cs) R its x hN hh
theorem Am (W0 : World) (R : List HP) (pb w : Nat) (its : List Nat) (cs : List Value) (hN : its.length < 900) (h0 : its ≠ []) (hh : Hp.Heap its its.length) :
  ao Tryz.prog W0 282 [.iface 427 (jE pb w)] (eY w pb (its, cs) :: R) (fun v B => ∃ x its', v = .iface 3 (.int .i64 ((x : Nat) : Int)) ∧ B = eY w pb (its', cs) :: R ∧ (its' ++ [x]).Perm its ∧ Hp.Heap its' its'.length ∧ ∀ y ∈ its, (x : Int) ≤ (y : Int)) :=
 Hp.heapPop_spec (v9 W0 pb w cs) R its hN h0 hh
def ou (x : Prt) : Nat := if x.gu = -1 then 64 else 4
def lf (ps : List Prt) : Prop := ps.length ≤ 8 ∧ ∀ x ∈ ps, x.l.length ≤ ou x
theorem lf.at_ {ps : List Prt} (h : lf ps) {i : Nat} (hi : i < ps.length) : (ps.getD i default).l.length ≤ ou (ps.getD i default) := by
 rw [show ps.getD i default = ps[i] by simp [List.getD, hi]]; exact h.2 _ (List.getElem_mem hi)
theorem lf.set {ps : List Prt} (h : lf ps) {i : Nat} {x : Prt} (hx : x.l.length ≤ ou x) : lf (ps.set i x) := ⟨by simpa using h.1, fun y hy => by
 rcases List.mem_or_eq_of_mem_set hy with q | q
 ·exact h.2 y q
 ·rw [q]; exact hx⟩
abbrev iq := Int × Int
@[reducible] def re (x : iq) : List Value := [.int .i64 x.1, .int .i64 x.2]
def fP (l : List iq) : List Prt := l.map fun x => ⟨x.1, x.2, []⟩
theorem rf (l : List iq) : (fP l).length = l.length := by simp [fP]
def cZ : Value := .slice none 0 0
theorem vd {R : List HP} : ∀ l : List iq, Ent R (kH 2 (aX (((List.replicate l.length cZ).zip (fP l)).map jD)) :: R)
 | [] => fC (A := [])
 | x :: l => by
  have ih := vd (R := R) l
  refine ih.trans ?_
  refine (hM (A := ((List.replicate l.length cZ).zip (fP l)).map jD) (R := R)).trans ?_
  refine (fj (E := 9) (sz := 1) (B := ((List.replicate l.length cZ).zip (fP l)).map jD ++ R)).trans ?_
  exact fC (A := jD (cZ, ⟨x.1, x.2, []⟩) :: ((List.replicate l.length cZ).zip (fP l)).map jD) (R := R)
theorem An (l : List iq) : ((List.replicate l.length cZ).zip (fP l)).flatMap oj = l.flatMap fun x => [.int .i64 x.1, .int .i64 x.2, cZ] := by
 induction l with
 | nil => rfl
 | cons x l ih =>
  rw [List.flatMap_cons, ← ih]
  rfl
theorem Ao (W0 : World) (R : List HP) (l : List iq) (a : Option Addr) (n c : Nat) (hln : l.length = n) (hn : n ≤ 8) (hs : bT (bu W0 R) a 2 re l) (hlab : ∀ x ∈ l, dh x.1 = true) :
  ao Tryz.prog W0 62 [.slice a n c] R (fun v B => ∃ p, v = .tuple #[.pointer (some ⟨p, 0, none⟩), .int .i64 0] ∧ B = ol p (fP l) :: R) := by
 subst hln
 refine aD Tryz.func62 Tryz.ntmps62 rfl rfl ?_
 refine au 14 ?_
 refine ai rfl ?_ ?_
 ·intro c1
  omega
 ·intro c1
  refine au 4 ?_
  refine aa rfl (bI t6 Tryz.zeroValue313 (aA nh (aA cu bH)) (aS rfl cu rfl rfl (Nat.le_of_ble_eq_true rfl) SetL.eq bG)) ?_
  refine ae rfl (bw rfl) ?_
  rintro _ _ ⟨p, rfl, rfl⟩
  refine au 12 ?_
  refine ce (fun X : Nat × Option Addr × Nat => X.1 ≤ l.length) (fun X => [(4, .pointer (some ⟨p, 0, none⟩)), (12, .slice a l.length c), (13, .int .i64 (l.length : Nat)), (14, .int .i64 X.1)]) (fun X => pt p (aj [.slice X.2.1 X.1 X.2.2, .bool true] 313) :: osl 315 3 (.slice X.2.1 X.1 X.2.2) ((l.take X.1).flatMap fun x => [.int .i64 x.1, .int .i64 x.2, cZ]) :: R) (fun X => l.length - X.1) (0, none, 0) ?_ ?_ ?_ ?_
  ·exact Nat.zero_le _
  ·repeat (first | exact aJ | refine aG rfl ?_)
  ·exact (Ent.cons (fj (E := 315) (sz := 3)))
  ·intro ⟨i, a2, c2⟩ hi
   dsimp only at hi ⊢
   refine au 6 ?_
   refine ai rfl ?_ ?_
   ·intro c5
    have hi1 : i < l.length := by omega
    obtain ⟨g, o, rfl, hc⟩ := hs.at_ hi1
    have hlb := hlab _ (List.getElem_mem hi1)
    have htk : l.take (i + 1) = l.take i ++ [l[i]] := List.take_succ_eq_append_getElem hi1
    refine au 6 ?_
    refine aa rfl (bM gE eT rfl rfl rfl hi1 (by first | exact Nat.zero_add _ | rfl)) ?_
    refine aa rfl (cj ni eT rfl hc.weak rfl) ?_
    refine ae rfl (cd jR) ?_
    rintro _ _ ⟨bx, rfl, rfl⟩
    refine b0 (bS eT rfl rfl rfl rfl rfl) ?_
    rintro _ _ rfl
    refine au 7 ?_
    refine ae rfl (aF Tryz.call167 rfl (uR W0 _ l[i].1)) ?_
    rintro _ B_ ⟨m, rfl, hm, hB_⟩
    obtain rfl := hB_.symm
    rw [hlb] at hm
    have hm0 : ¬ m < 0 := by simpa using hm
    refine au 3 ?_
    refine ai rfl ?_ ?_
    ·intro c7
     exact absurd c7 hm0
    ·intro c7
     refine au 2 ?_
     refine bR [(bx, 0, _)] 12 bQ rfl (aC aB) (fun hS => ?_)
     refine ab 0 rfl rfl rfl hS (ag rfl) ?_
     refine ab 1 rfl rfl rfl hS (ag rfl) ?_
     refine ab 2 rfl rfl rfl hS (aU rfl) ?_
     refine ab 3 rfl rfl rfl hS (ap rfl t6 rfl nh rfl (by first | exact Nat.zero_add _ | rfl)) ?_
     refine ab 5 rfl rfl rfl hS (cj ni eT rfl (cT (k := 0) rfl) rfl) ?_
     refine ab 6 rfl rfl rfl hS (bI Tryz.underlying315 xX (aA eT (aA lQ bH)) (i5 rfl eT rfl rfl (Nat.le_of_ble_eq_true rfl) SetRL.eq bG)) ?_
     refine i6 (is := [4, 7]) (by kernel_rfl) rfl ⟨?_, ?_, trivial⟩
     ·skip
      refine ed rfl rfl (ec (am Tryz.isAgg311 rfl (aH rfl))) rfl ?_; clear hS
      rintro _ _ ⟨rfl, rfl⟩
      refine ⟨(aC aB), fun hS => ?_⟩
      refine aW 7 (by kernel_rfl) rfl rfl (fF t7 Tryz.sizeOf315 xX rfl (eo rfl rfl fD) rfl (by decide) (by decide) (by decide)) rfl ?_; clear hS
      rintro _ _ ⟨b3, rfl, rfl⟩
      refine ⟨(aC aB), fun hS => ?_⟩
      refine aW 8 (by kernel_rfl) rfl rfl (dy (sz := 3) (by_ := 40) (info := Tryz.t315) t7 (by kernel_rfl) rfl rfl rfl rfl (by decide) rfl rfl dz rfl rfl (by simp only [maxLen]; omega) (by omega)) rfl ?_; clear hS
      rintro _ _ ⟨a3, c3, rfl, rfl⟩
      refine ⟨(aC aB), fun hS => ?_⟩
      refine ab 9 rfl rfl rfl hS (aU rfl) ?_
      refine ab 10 rfl rfl rfl hS (ap rfl t6 rfl nh rfl (by first | exact Nat.zero_add _ | rfl)) ?_
      refine aW 11 (by kernel_rfl) rfl rfl (bN nh rfl rfl rfl (Nat.le_of_ble_eq_true rfl) SetL.eq) rfl ?_; clear hS
      rintro _ _ rfl
      refine ⟨(aC aB), fun hS => ?_⟩
      refine bz (by kernel_rfl) ?_; clear hS
      refine au 3 ?_
      refine aa rfl (bj rfl rfl (by first | exact aK (by omega) | rfl)) ?_
      refine au 3 ?_
      refine bU (i + 1, a3, c3) ?_ ?_ ?_ ?_
      ·omega
      ·omega
      ·repeat (first | exact aJ | refine aG rfl ?_)
      ·dsimp only
       rw [htk, List.flatMap_append]
       show Ent _ (pt p (aj [.slice a3 (i + 1) c3, .bool true] 313) :: osl 315 3 (.slice a3 (i + 1) c3) (((l.take i).flatMap fun x => [.int .i64 x.1, .int .i64 x.2, cZ]) ++ [[.int .i64 l[i].1, .int .i64 l[i].2, .slice none 0 0]].flatten) :: R)
       exact inferInstance
     ·skip
      refine ed rfl rfl (fF t7 Tryz.sizeOf315 xX rfl (eo rfl rfl fD) rfl (by decide) (by decide) (by decide)) rfl ?_; clear hS
      rintro _ _ ⟨b3, rfl, rfl⟩
      refine ⟨(aC aB), fun hS => ?_⟩
      refine aW 4 (by kernel_rfl) rfl rfl (ec (am Tryz.isAgg311 rfl (aH rfl))) rfl ?_; clear hS
      rintro _ _ ⟨rfl, rfl⟩
      refine ⟨(aC aB), fun hS => ?_⟩
      refine aW 8 (by kernel_rfl) rfl rfl (dy (sz := 3) (by_ := 40) (info := Tryz.t315) t7 (by kernel_rfl) rfl rfl rfl rfl (by decide) rfl rfl dz rfl rfl (by simp only [maxLen]; omega) (by omega)) rfl ?_; clear hS
      rintro _ _ ⟨a3, c3, rfl, rfl⟩
      refine ⟨(aC aB), fun hS => ?_⟩
      refine ab 9 rfl rfl rfl hS (aU rfl) ?_
      refine ab 10 rfl rfl rfl hS (ap rfl t6 rfl nh rfl (by first | exact Nat.zero_add _ | rfl)) ?_
      refine aW 11 (by kernel_rfl) rfl rfl (bN nh rfl rfl rfl (Nat.le_of_ble_eq_true rfl) SetL.eq) rfl ?_; clear hS
      rintro _ _ rfl
      refine ⟨(aC aB), fun hS => ?_⟩
      refine bz (by kernel_rfl) ?_; clear hS
      refine au 3 ?_
      refine aa rfl (bj rfl rfl (by first | exact aK (by omega) | rfl)) ?_
      refine au 3 ?_
      refine bU (i + 1, a3, c3) ?_ ?_ ?_ ?_
      ·omega
      ·omega
      ·repeat (first | exact aJ | refine aG rfl ?_)
      ·dsimp only
       rw [htk, List.flatMap_append]
       show Ent _ (pt p (aj [.slice a3 (i + 1) c3, .bool true] 313) :: osl 315 3 (.slice a3 (i + 1) c3) (((l.take i).flatMap fun x => [.int .i64 x.1, .int .i64 x.2, cZ]) ++ [[.int .i64 l[i].1, .int .i64 l[i].2, .slice none 0 0]].flatten) :: R)
       exact inferInstance
   ·intro c5
    refine au 13 ?_
    refine ah (.inl rfl) (.cons (ac rfl) (.cons (ac rfl) .nil)) ?_
    obtain rfl : i = l.length := by omega
    rw [List.take_of_length_le (Nat.le_refl _), ← An l]
    refine ⟨_, ⟨p, rfl, rfl⟩, ?_⟩
    exact (Ent.cons (Ent.cons (vd (R := R) l))).trans (A9 (by rw [List.length_replicate, rf]) (rf l).symm)
theorem Ap (W0 : World) (R : List HP) (ps : Nat) (fr : List bJ) (f : Nat) (hf : f < fr.length) :
  ao Tryz.prog W0 338 [.pointer (some ⟨ps, 0, none⟩), .int .i64 f] (bn ps fr :: R) (fun v B => v = .int .i64 0 ∧ B = bn ps (fr.set f bi) :: R) := by
 have hi : d7 fr.length f = true := by simp only [d7, decide_eq_true_eq]; omega
 refine aD Tryz.func338 Tryz.ntmps338 rfl rfl ?_
 refine au 10 ?_
 refine ae rfl (aM nf rfl (l6 W0 _ ps fr f)) ?_
 rintro _ B_ ⟨rfl, hB_⟩
 obtain rfl := hB_.symm
 refine au 9 ?_
 refine ai rfl ?_ ?_
 ·intro c2
  exact absurd c2 (by simp [hi])
 ·intro c2
  refine au 3 ?_
  refine kZ (ps := ps) fun g => ?_
  refine au 6 ?_
  refine aa rfl (mt pB gG Tryz.zeroValue152 rfl) ?_
  refine aa rfl (bM lL ng rfl rfl rfl hf (by first | exact Nat.zero_add _ | rfl)) ?_
  refine b0 (iD ng rfl rfl rfl rfl (by rw [uv]; omega) (uu (y := bi) hf rfl)) ?_
  rintro _ _ rfl
  refine au 8 ?_
  refine ah (.inl rfl) (.cons (ac rfl) .nil) ?_
  exact ⟨_, ⟨rfl, rfl⟩, iW rfl (by simp)⟩
theorem ov (W0 : World) (R : List HP) (pb ps : Nat) (po : Po) (h0 : 0 < po.length) :
  ao Tryz.prog W0 233 [.pointer (some ⟨pb, 0, none⟩)] (cH pb (ps, po) :: R) (fun v B => v = .bool false ∧ B = cH pb (ps, po) :: R) := by
 refine v6 fun a c vs Ls hv hL => ?_
 refine aD Tryz.func233 Tryz.ntmps233 rfl rfl ?_
 refine au 10 ?_
 refine aZ rfl rfl rfl ?_ ?_
 ·intro g1_3
  cases g1_3
 ·intro g1_3
  refine au 16 ?_
  refine ah (.inl rfl) (.cons (ac rfl) .nil) ?_
  exact ⟨_, ⟨by simp [bW, show po ≠ [] from fun e => by subst e; simp at h0], rfl⟩, lc rfl hv hL rfl rfl⟩
theorem ve (W0 : World) (R : List HP) (pb ps : Nat) (po : Po) (f : Int) :
    ao Tryz.prog W0 234 [.pointer (some ⟨pb, 0, none⟩), .int .i64 f] (cH pb (ps, po) :: R) (fun v B => v = .bool (d7 po.length f) ∧ B = cH pb (ps, po) :: R) := by
  refine v6 fun a c vs Ls hv hL => ?_
  refine aD Tryz.func234 Tryz.ntmps234 rfl rfl ?_
  refine au 10 ?_
  refine bX rfl rfl rfl ?_ ?_
  · intro g1_3
    refine au 18 ?_
    refine ah (.inl rfl) (.cons (ac rfl) .nil) ?_
    refine ⟨_, ⟨?_, rfl⟩, lc rfl hv hL rfl rfl⟩
    refine congrArg Value.bool ?_
    rw [Bool.eq_iff_iff, d7, decide_eq_true_iff]
    first
      | (rw [decide_eq_true_iff]; constructor <;> (intro q; omega))
      | (constructor
         · intro q; first | omega | (cases q)
         · intro q; omega)
  · intro g1_3
    refine au 11 ?_
    refine ah (.inl rfl) (.cons (ac rfl) .nil) ?_
    refine ⟨_, ⟨?_, rfl⟩, lc rfl hv hL rfl rfl⟩
    refine congrArg Value.bool ?_
    rw [Bool.eq_iff_iff, d7, decide_eq_true_iff]
    first
      | (rw [decide_eq_true_iff]; constructor <;> (intro q; omega))
      | (constructor
         · intro q; first | omega | (cases q)
         · intro q; omega)
def jk (w : Int) : Bool := decide (0 ≤ w ∧ w < 16)
theorem rh (W0 : World) (R : List HP) (w : Int) :
    ao Tryz.prog W0 271 [.int .i64 w] R (fun v B => v = .bool (jk w) ∧ B = R) := by
  refine aD Tryz.func271 Tryz.ntmps271 rfl rfl ?_
  refine au 10 ?_
  refine bX rfl rfl rfl ?_ ?_
  · intro g1_3
    refine au 8 ?_
    refine ah (.inl rfl) (.cons (ac rfl) .nil) ?_
    refine ⟨_, ⟨?_, rfl⟩, inferInstance⟩
    refine congrArg Value.bool ?_
    rw [Bool.eq_iff_iff, jk, decide_eq_true_iff]
    first
      | (rw [decide_eq_true_iff]; constructor <;> (intro q; omega))
      | (constructor
         · intro q; first | omega | (cases q)
         · intro q; omega)
  · intro g1_3
    refine au 6 ?_
    refine ah (.inl rfl) (.cons (ac rfl) .nil) ?_
    refine ⟨_, ⟨?_, rfl⟩, inferInstance⟩
    refine congrArg Value.bool ?_
    rw [Bool.eq_iff_iff, jk, decide_eq_true_iff]
    first
      | (rw [decide_eq_true_iff]; constructor <;> (intro q; omega))
      | (constructor
         · intro q; first | omega | (cases q)
         · intro q; omega)
theorem Aq (n : Nat) : (List.replicate n ((-1 : Int), false)).flatMap dm ++ [[Value.int .i64 (-1), .bool false]].flatten = (List.replicate (n + 1) ((-1 : Int), false)).flatMap dm := by
 rw [List.replicate_succ', List.flatMap_append]; rfl
theorem vf {R : List HP} : ∀ n : Nat, Ent R (kH 2 (aX (((List.replicate n cZ).zip (List.replicate n ([] : List Nat))).map cY)) :: R)
 | 0 => fC (A := [])
 | n + 1 => by
  have ih := vf (R := R) n
  refine ih.trans ?_
  refine (hM (A := ((List.replicate n cZ).zip (List.replicate n ([] : List Nat))).map cY) (R := R)).trans ?_
  refine (fj (E := 3) (sz := 1) (B := ((List.replicate n cZ).zip (List.replicate n ([] : List Nat))).map cY ++ R)).trans ?_
  exact fC (A := cY (cZ, []) :: ((List.replicate n cZ).zip (List.replicate n ([] : List Nat))).map cY) (R := R)
theorem Ar (W0 : World) (R : List HP) (ps : Nat) (fr : List bJ) (h0 : 0 < fr.length) (h32 : fr.length ≤ 32) :
  ao Tryz.prog W0 162 [.pointer (some ⟨ps, 0, none⟩)] (bn ps fr :: R)
   (fun v B => ∃ pb, v = .tuple #[.pointer (some ⟨pb, 0, none⟩), .int .i64 0] ∧ B = cH pb (ps, List.replicate fr.length (-1, false)) :: bn ps fr :: R) := by
 refine aD Tryz.func162 Tryz.ntmps162 rfl rfl ?_
 refine au 10 ?_
 refine ae rfl (aM nj rfl (l5 W0 _ ps fr)) ?_
 rintro _ B_ ⟨rfl, hB_⟩
 obtain rfl := hB_.symm
 refine au 3 ?_
 refine ai rfl ?_ ?_
 ·intro c1
  omega
 ·intro c1
  refine au 5 ?_
  refine aa rfl (bI sW Tryz.zeroValue399 (aA iN (aA sJ (aA xO bH))) (aS rfl iN rfl rfl (Nat.le_of_ble_eq_true rfl) SetL.eq bG)) ?_
  refine ae rfl (bw rfl) ?_
  rintro _ _ ⟨pb, rfl, rfl⟩
  refine au 7 ?_
  refine ae rfl (aM nj rfl (l5 W0 _ ps fr)) ?_
  rintro _ B_ ⟨rfl, hB_⟩
  obtain rfl := hB_.symm
  refine au 4 ?_
  refine ce (fun X : Nat × Option Addr × Nat => X.1 ≤ fr.length) (fun X => [(4, .pointer (some ⟨pb, 0, none⟩)), (12, .int .i64 (fr.length : Nat)), (13, .int .i64 X.1)]) (fun X => pt pb (aj (dZ ps (.slice X.2.1 X.1 X.2.2) (List.replicate 16 cZ)) 399) :: osl 393 2 (.slice X.2.1 X.1 X.2.2) ((List.replicate X.1 ((-1 : Int), false)).flatMap dm) :: bn ps fr :: R) (fun X => fr.length - X.1) (0, none, 0) ?_ ?_ ?_ ?_
  ·exact Nat.zero_le _
  ·repeat (first | exact aJ | refine aG rfl ?_)
  ·exact (Ent.ofPerm (List.Perm.swap _ _ _)).trans (Ent.cons (fj (E := 393) (sz := 2)))
  ·intro ⟨i, a2, c2⟩ hi
   dsimp only at hi ⊢
   refine au 6 ?_
   refine ai rfl ?_ ?_
   ·intro c5
    refine au 10 ?_
    refine aa rfl (bI lM Fz (aA ar (aA cu bH)) (aS rfl ar rfl rfl (Nat.le_of_ble_eq_true rfl) SetL.eq bG)) ?_
    refine ae rfl (fF kJ nk Fz rfl (eo rfl rfl fD) rfl (by decide) (by decide) (by decide)) ?_
    rintro _ _ ⟨b2, rfl, rfl⟩
    refine ae rfl (dy (sz := 2) (by_ := 16) (info := Tryz.t393) kJ (by kernel_rfl) rfl rfl rfl rfl (by decide) rfl rfl dz rfl rfl (by simp only [maxLen]; omega) (by omega)) ?_
    rintro _ _ ⟨a3, c3, rfl, rfl⟩
    refine au 2 ?_
    refine b0 (bN sJ rfl rfl rfl (Nat.le_of_ble_eq_true rfl) SetL.eq) ?_
    rintro _ _ rfl
    refine au 4 ?_
    refine aa rfl (bj rfl rfl (by first | exact aK (by omega) | rfl)) ?_
    refine au 3 ?_
    refine bU (i + 1, a3, c3) ?_ ?_ ?_ ?_
    ·show i + 1 ≤ fr.length; omega
    ·show fr.length - (i + 1) < fr.length - i; omega
    ·repeat (first | exact aJ | refine aG rfl ?_)
    ·dsimp only
     rw [← Aq]
     exact inferInstance
   ·intro c5
    refine au 13 ?_
    refine ah (.inl rfl) (.cons (ac rfl) (.cons (ac rfl) .nil)) ?_
    obtain rfl : i = fr.length := by omega
    refine ⟨_, ⟨pb, rfl, rfl⟩, ?_⟩
    exact (Ent.cons (Ent.cons (vf (R := bn ps fr :: R) 16))).trans (lc (a := a2) (c := c2) rfl (by simp) (LsOk.new _) (by simp) rfl)
theorem As (W0 : World) (R : List HP) (pb ps : Nat) (po : Po) (fr : List bJ) (f w : Nat) (t : Bool) (hf : f < po.length) (hff : f < fr.length) (hw : w < 16) (hP : PoOk po) (ha : cC po f = ((w : Int), t))
  (a : Option Addr) (c : Nat) (vs : List Value) (Ls : List (List Nat)) (hv : vs.length = 16) (hL : LsOk (po.set f (-1, false)) Ls) :
  ao Tryz.prog W0 272 [.pointer (some ⟨pb, 0, none⟩), .int .i64 f] (pt pb (aj (dZ ps (.slice a po.length c) vs) 399) :: osl 393 2 (.slice a po.length c) (po.flatMap dm) :: kH 2 (aX ((vs.zip Ls).map cY)) :: bn ps fr :: R)
   (fun v B => v = .int .i64 0 ∧ B = cH pb (ps, po.set f ((w : Int), false)) :: bn ps (fr.set f bi) :: R) := by
 have hrow := hL.row w hw
 have hP1 : PoOk (po.set f (-1, false)) := ⟨by rw [List.length_set]; exact hP.len, fun g hg => by
  rw [List.length_set] at hg
  rw [jj hf]
  split
  ·exact ⟨by decide, by decide, fun _ => rfl⟩
  ·exact hP.who g hg⟩
 have hrl := hL.rlen hP1 hw
 have hown := zM (po := po.set f (-1, false)) (f := f) (w := w) (by rw [List.length_set]; exact hf) (by rw [jj hf, if_pos rfl]; intro e; have := (Prod.mk.inj e).1; omega)
 rw [List.set_set] at hown
 have hoth : ∀ u, u < 16 → u ≠ w → bB (po.set f ((w : Int), false)) u = bB (po.set f (-1, false)) u := fun u hu hne => by
  have := qC (po := po.set f (-1, false)) (f := f) (x := ((w : Int), false)) (w := u) (by rw [List.length_set]; exact hf) (by rw [jj hf, if_pos rfl]; intro e; have := (Prod.mk.inj e).1; omega) (by intro e; have := (Prod.mk.inj e).1; omega)
  rw [List.set_set] at this
  exact this
 have hset : (po.set f ((cC po f).1, false)) = po.set f ((w : Int), false) := by rw [ha]
 refine aD Tryz.func272 Tryz.ntmps272 rfl rfl ?_
 refine au 6 ?_
 refine dP (r := osl 393 2) (b := .slice a po.length c) (gr (fun h1 h2 => by have := congrArg List.length h2; rw [ip] at this; simp at this; omega) fun g n cap sp h1 h2 h3 h4 h5 => ?_)
 cases h1
 refine au 6 ?_
 refine aa rfl (bM kJ nk rfl rfl rfl hf (by first | exact Nat.zero_add _ | rfl)) ?_
 refine aa rfl (ap rfl lM rfl cu rfl (by first | exact Nat.zero_add _ | rfl)) ?_
 refine b0 (bN cu rfl rfl rfl (by rw [List.length_append, ip]; omega) (v8 po sp f false hf)) ?_
 rintro _ _ rfl
 refine au 3 ?_
 rw [hset]
 refine eN (B := pt g (aj ((po.set f ((w : Int), false)).flatMap dm ++ sp) 393) :: eY w pb (Ls.getD w [], dZ ps (.slice (some ⟨g, 0, none⟩) po.length c) vs) :: kH 3 (aX (((vs.zip Ls).map cY).eraseIdx w)) :: bn ps fr :: R) ?_ ?_
 ·refine Ent.cons ?_
  exact qZ hw hv hL.len
 have hg0 : ((po.set f ((w : Int), false)).flatMap dm ++ sp)[f * 2 + 0]? = some (.int .i64 ((w : Nat) : Int)) := by
  rw [v7 _ _ _ _ (by rw [List.length_set]; exact hf) (by decide), jj hf, if_pos rfl]; rfl
 have hgl : ((po.set f ((w : Int), false)).flatMap dm ++ sp).length = c * 2 := by
  rw [List.length_append, ip, List.length_set] at *; omega
 refine bR [(pb, 1, [.slice (some ⟨g, 0, none⟩) po.length c]), (g, 0, _)] 16 bQ rfl (cm (uO (T := 399) (E := 3) (sz := 1) (f := fq) (o := 2 + w * 1) (by omega) rfl) (aC aB)) (fun hS => ?_)
 refine ab 0 rfl rfl rfl hS (ag rfl) ?_
 refine ab 1 rfl rfl rfl hS (ag rfl) ?_
 refine ab 2 rfl rfl rfl hS (aU rfl) ?_
 refine ab 3 rfl rfl rfl hS (ap rfl sW rfl sJ rfl (by first | exact Nat.zero_add _ | rfl)) ?_
 refine ab 4 rfl rfl rfl hS (am xz rfl (f6 (k := 0) (j := 0) rfl rfl)) ?_
 refine ab 5 rfl rfl rfl hS (ag rfl) ?_
 refine ab 6 rfl rfl rfl hS (bM kJ nk rfl rfl rfl hf (by first | exact Nat.zero_add _ | rfl)) ?_
 refine ab 7 rfl rfl rfl hS (ap rfl lM rfl ar rfl (by first | exact Nat.zero_add _ | rfl)) ?_
 refine ab 8 rfl rfl rfl hS (am aT rfl (av (k := 1) rfl hg0)) ?_
 refine ab 9 rfl rfl rfl hS (aU rfl) ?_
 refine ab 10 rfl rfl rfl hS (ap rfl sW rfl xO rfl (by first | exact Nat.zero_add _ | rfl)) ?_
 refine ab 11 rfl rfl rfl hS (dv t8 t9 rfl rfl rfl hw (by first | exact Nat.zero_add _ | rfl)) ?_
 refine ab 12 rfl rfl rfl hS (ka FA (fun _ h => nomatch h) rfl) ?_
 refine ab 13 rfl rfl rfl hS (ag rfl) ?_
 refine ab 14 rfl rfl rfl hS (ka dN (fun _ h => nomatch h) rfl) ?_
 refine aW 15 (by kernel_rfl) rfl rfl (aM Tryz.call152 rfl (Al W0 _ pb w (Ls.getD w []) f (dZ ps (.slice (some ⟨g, 0, none⟩) po.length c) vs) (by omega) hrow.2)) rfl ?_; clear hS
 rintro _ _ ⟨rfl, l', rfl, hp, hh⟩
 refine ⟨(cm (uO (T := 399) (E := 3) (sz := 1) (f := fq) (o := 2 + w * 1) (by omega) rfl) (aC aB)), fun hS => ?_⟩
 refine bz (by kernel_rfl) ?_; clear hS
 refine au 2 ?_
 refine eN (B := cH pb (ps, po.set f ((w : Int), false)) :: bn ps fr :: R) ?_ ?_
 ·have e := eP (E := 393) (sz := 2) (g := g) (n := po.length) (cap := c) (xs := (po.set f ((w : Int), false)).flatMap dm) (sp := sp) (A := pt g (aj ((po.set f ((w : Int), false)).flatMap dm ++ sp) 393) :: kH 3 (aX (((vs.zip Ls).map cY).eraseIdx w)) :: bn ps fr :: R) (B := kH 3 (aX (((vs.zip Ls).map cY).eraseIdx w)) :: bn ps fr :: R) h2 h3 (by rw [ip, List.length_set]) hgl
  refine (Ent.cons e).trans ?_
  exact r0 hw hv rfl (by simp) hL.len (hL.set hw (hp.trans ((hrow.1.append_right [f]).trans hown)) hh hoth)
 refine oo (pb := pb) fun a2 c2 vs2 Ls2 hv2 hL2 => ?_
 refine au 6 ?_
 refine ae rfl (aM Tryz.call338 rfl (Ap W0 _ ps fr f hff)) ?_
 rintro _ B_ ⟨rfl, hB_⟩
 obtain rfl := hB_.symm
 refine au 4 ?_
 refine ah (.inl rfl) (.cons (ac rfl) .nil) ?_
 exact ⟨_, ⟨rfl, rfl⟩, lc rfl hv2 hL2 (by simp) rfl⟩
theorem Av (W0 : World) (R : List HP) (pb ps : Nat) (po : Po) (fr : List bJ) (f w : Nat) (hf : f < po.length) (hff : f < fr.length) (hw : w < 16) (hP : PoOk po) (ha : cC po f = (-1, false)) :
  ao Tryz.prog W0 164 [.pointer (some ⟨pb, 0, none⟩), .int .i64 f, .int .i64 w] (cH pb (ps, po) :: bn ps fr :: R)
   (fun v B => v = .int .i64 0 ∧ B = cH pb (ps, po.set f ((w : Int), false)) :: bn ps (fr.set f bi) :: R) := by
 have hi : d7 po.length f = true := by simp only [d7, decide_eq_true_eq]; omega
 have hw' : jk w = true := by simp only [jk, decide_eq_true_eq]; omega
 have h0 : po.set f (-1, false) = po := by
  have : cC po f = po[f] := by simp [cC, List.getD, hf]
  rw [← ha, this]; exact List.set_getElem_self _
 refine aD Tryz.func164 Tryz.ntmps164 rfl rfl ?_
 refine au 10 ?_
 refine ae rfl (aM tc rfl (ov W0 _ pb ps po (by omega))) ?_
 rintro _ B_ ⟨rfl, hB_⟩
 obtain rfl := hB_.symm
 refine au 3 ?_
 refine ai rfl ?_ ?_
 ·intro c1
  exact absurd c1 (by decide)
 ·intro c1
  refine au 5 ?_
  refine ae rfl (aM Tryz.call234 rfl (ve W0 _ pb ps po f)) ?_
  rintro _ B_ ⟨rfl, hB_⟩
  obtain rfl := hB_.symm
  refine au 4 ?_
  refine ai rfl ?_ ?_
  ·intro c3
   exact absurd c3 (by simp [hi])
  ·intro c3
   refine au 2 ?_
   refine ae rfl (aF xY rfl (rh W0 _ w)) ?_
   rintro _ B_ ⟨rfl, hB_⟩
   obtain rfl := hB_.symm
   refine au 4 ?_
   refine ai rfl ?_ ?_
   ·intro c4
    exact absurd c4 (by simp [hw'])
   ·intro c4
    refine al ?_
    refine oo (pb := pb) fun a c vs Ls hv hL => ?_
    refine dP (r := osl 393 2) (b := .slice a po.length c) (gr (fun h1 h2 => by have := congrArg List.length h2; rw [ip] at this; simp at this; omega) fun g n cap sp h1 h2 h3 h4 h5 => ?_)
    cases h1
    refine au 6 ?_
    refine aa rfl (bM kJ nk rfl rfl rfl hf (by first | exact Nat.zero_add _ | rfl)) ?_
    refine aa rfl (ap rfl lM rfl ar rfl (by first | exact Nat.zero_add _ | rfl)) ?_
    refine aa rfl (am aT rfl (aH ((v7 po sp f 0 hf (by decide)).trans (by rw [ha]; rfl)))) ?_
    refine au 4 ?_
    refine ai rfl ?_ ?_
    ·intro c6
     exact absurd c6 (by decide)
    ·intro c6
     refine au 11 ?_
     refine aa rfl (bM kJ nk rfl rfl rfl hf (by first | exact Nat.zero_add _ | rfl)) ?_
     refine aa rfl (ap rfl lM rfl ar rfl (by first | exact Nat.zero_add _ | rfl)) ?_
     refine b0 (bN ar rfl rfl rfl (by rw [List.length_append, ip]; omega) (Ab po sp f (w : Int) hf)) ?_
     rintro _ _ rfl
     refine au 3 ?_
     rw [ha]
     refine eN (B := pt pb (aj (dZ ps (.slice (some ⟨g, 0, none⟩) (po.set f ((w : Int), false)).length c) vs) 399) :: osl 393 2 (.slice (some ⟨g, 0, none⟩) (po.set f ((w : Int), false)).length c) ((po.set f ((w : Int), false)).flatMap dm) :: kH 2 (aX ((vs.zip Ls).map cY)) :: bn ps fr :: R) ?_ ?_
     ·rw [List.length_set]
      have e := eP (E := 393) (sz := 2) (g := g) (n := po.length) (cap := c) (xs := (po.set f ((w : Int), false)).flatMap dm) (sp := sp) (A := pt g (aj ((po.set f ((w : Int), false)).flatMap dm ++ sp) 393) :: kH 2 (aX ((vs.zip Ls).map cY)) :: bn ps fr :: R) (B := kH 2 (aX ((vs.zip Ls).map cY)) :: bn ps fr :: R) h2 h3 (by rw [ip, List.length_set]) (by rw [List.length_append, ip] at h5 ⊢; rw [List.length_set]; exact h5)
      exact (inferInstance : Ent _ (pt pb (aj (dZ ps (.slice (some ⟨g, 0, none⟩) po.length c) vs) 399) :: pt g (aj ((po.set f ((w : Int), false)).flatMap dm ++ sp) 393) :: kH 2 (aX ((vs.zip Ls).map cY)) :: bn ps fr :: R)).trans (Ent.cons e)
     refine au 3 ?_
     refine ae rfl (zT Tryz.call272 rfl (As W0 _ pb ps (po.set f ((w : Int), false)) fr f w false (by rw [List.length_set]; exact hf) hff hw (hP.set hf (by simp) (by simp; omega)) (by rw [jj hf, if_pos rfl]) (some ⟨g, 0, none⟩) c vs Ls hv (by rw [List.set_set, h0]; exact hL))) ?_
     rintro _ B_ ⟨rfl, hB_⟩
     obtain rfl := hB_.symm
     refine au 4 ?_
     refine ah (.inl rfl) (.cons (ac rfl) .nil) ?_
     rw [List.set_set]
     exact ⟨_, ⟨rfl, rfl⟩, inferInstance⟩
theorem Aw (W0 : World) (R : List HP) (pb ps : Nat) (po : Po) (w : Nat) (h0 : 0 < po.length) (hw : w < 16) :
  ao Tryz.prog W0 280 [.pointer (some ⟨pb, 0, none⟩), .int .i64 w] (cH pb (ps, po) :: R) (fun v B => v = .int .i64 ((bB po w).length : Nat) ∧ B = cH pb (ps, po) :: R) := by
 have hw' : jk w = true := by simp only [jk, decide_eq_true_eq]; omega
 refine aD Tryz.func280 Tryz.ntmps280 rfl rfl ?_
 refine au 9 ?_
 refine ae rfl (aM tc rfl (ov W0 _ pb ps po h0)) ?_
 rintro _ B_ ⟨rfl, hB_⟩
 obtain rfl := hB_.symm
 refine aa rfl (ag rfl) ?_
 refine aZ rfl rfl rfl ?_ ?_
 ·intro g1_3
  exact absurd g1_3 (by decide)
 ·intro g1_3
  refine au 2 ?_
  refine ae rfl (aF xY rfl (rh W0 _ w)) ?_
  rintro _ B_ ⟨rfl, hB_⟩
  obtain rfl := hB_.symm
  refine au 5 ?_
  refine ai rfl ?_ ?_
  ·intro c1
   exact absurd c1 (by simp [hw'])
  ·intro c1
   refine au 3 ?_
   refine oo (pb := pb) fun a c vs Ls hv hL => ?_
   have hrow := hL.row w hw
   refine eN (B := eY w pb (Ls.getD w [], dZ ps (.slice a po.length c) vs) :: kH 3 (aX (((vs.zip Ls).map cY).eraseIdx w)) :: osl 393 2 (.slice a po.length c) (po.flatMap dm) :: R) ?_ ?_
   ·exact (Ent.cons (Ent.ofPerm (List.Perm.swap _ _ _))).trans (qZ hw hv hL.len)
   refine au 5 ?_
   refine aa rfl (dv t8 t9 rfl rfl rfl hw (by first | exact Nat.zero_add _ | rfl)) ?_
   refine ae rfl (aM xW rfl (r9 W0 _ pb w (Ls.getD w []) (dZ ps (.slice a po.length c) vs))) ?_
   rintro _ B_ ⟨rfl, hB_⟩
   obtain rfl := hB_.symm
   refine au 4 ?_
   refine ah (.inl rfl) (.cons (ac rfl) .nil) ?_
   rw [hrow.1.length_eq]
   have hLs : Ls.set w (Ls.getD w []) = Ls := by
    rw [show Ls.getD w [] = Ls[w]'(by rw [hL.len]; exact hw) by simp [List.getD, hL.len, hw]]; exact List.set_getElem_self _
   refine ⟨_, ⟨rfl, rfl⟩, ?_⟩
   exact (Ent.cons (Ent.ofPerm (List.Perm.swap _ _ _))).trans (r0 hw hv rfl rfl hL.len (by rw [hLs]; exact hL))
theorem Ax (W0 : World) (R : List HP) (pb ps : Nat) (po : Po) (w f : Nat) (l : List Nat) (hw : w < 16) (hP : PoOk po) (he : bB po w = f :: l) :
  ao Tryz.prog W0 185 [.pointer (some ⟨pb, 0, none⟩), .int .i64 w] (cH pb (ps, po) :: R)
   (fun v B => v = .tuple #[.int .i64 f, .int .i64 0] ∧ B = cH pb (ps, po.set f ((w : Int), true)) :: R) := by
 have hw' : jk w = true := by simp only [jk, decide_eq_true_eq]; omega
 have hf := gN.1 (show f ∈ bB po w by rw [he]; simp)
 refine aD Tryz.func185 Tryz.ntmps185 rfl rfl ?_
 refine au 11 ?_
 refine ae rfl (aM tc rfl (ov W0 _ pb ps po (by omega))) ?_
 rintro _ B_ ⟨rfl, hB_⟩
 obtain rfl := hB_.symm
 refine au 3 ?_
 refine ai rfl ?_ ?_
 ·intro c1
  exact absurd c1 (by decide)
 ·intro c1
  refine au 3 ?_
  refine ae rfl (aF xY rfl (rh W0 _ w)) ?_
  rintro _ B_ ⟨rfl, hB_⟩
  obtain rfl := hB_.symm
  refine au 4 ?_
  refine ai rfl ?_ ?_
  ·intro c3
   exact absurd c3 (by simp [hw'])
  ·intro c3
   refine al ?_
   refine oo (pb := pb) fun a c vs Ls hv hL => ?_
   have hrow := hL.row w hw
   have hrl := hL.rlen hP hw
   refine eN (B := eY w pb (Ls.getD w [], dZ ps (.slice a po.length c) vs) :: kH 3 (aX (((vs.zip Ls).map cY).eraseIdx w)) :: osl 393 2 (.slice a po.length c) (po.flatMap dm) :: R) ?_ ?_
   ·exact (Ent.cons (Ent.ofPerm (List.Perm.swap _ _ _))).trans (qZ hw hv hL.len)
   refine au 5 ?_
   refine aa rfl (dv t8 t9 rfl rfl rfl hw (by first | exact Nat.zero_add _ | rfl)) ?_
   refine ae rfl (aM xW rfl (r9 W0 _ pb w (Ls.getD w []) (dZ ps (.slice a po.length c) vs))) ?_
   rintro _ B_ ⟨rfl, hB_⟩
   obtain rfl := hB_.symm
   refine au 4 ?_
   refine ai rfl ?_ ?_
   ·intro c5
    exact absurd c5 (by rw [hrow.1.length_eq, he, List.length_cons]; omega)
   ·intro c5
    refine au 9 ?_
    refine aa rfl (dv t8 t9 rfl rfl rfl hw (by first | exact Nat.zero_add _ | rfl)) ?_
    refine aa rfl (ka FA (fun _ h => nomatch h) rfl) ?_
    refine ae rfl (aM Tryz.call282 rfl (Am W0 _ pb w (Ls.getD w []) (dZ ps (.slice a po.length c) vs) (by omega) (fun e => by rw [e] at hrow; have := hrow.1.length_eq; rw [he] at this; simp at this) hrow.2)) ?_
    rintro _ _ ⟨x, l', rfl, rfl, hp, hh, hm⟩
    have hpp := hp.trans hrow.1
    have hmm : ∀ y ∈ bB po w, x ≤ y := fun y hy => by have := hm y (hrow.1.mem_iff.2 hy); omega
    have hx := qD hpp hmm
    have hr := zN hpp hmm
    rw [he] at hx
    obtain ⟨rfl, _⟩ := List.cons.inj hx
    have hk : LsOk (po.set f ((w : Int), true)) (Ls.set w l') := hL.set hw hr hh fun u hu hne => qC hf.1 (by rw [hf.2]; intro e; have := (Prod.mk.inj e).1; omega) (by intro e; have := (Prod.mk.inj e).2; cases this)
    refine aa rfl (nS dN (fun _ h => nomatch h) rfl) ?_
    refine au 4 ?_
    refine dP (r := osl 393 2) (b := .slice a po.length c) (gr (fun h1 h2 => by have := congrArg List.length h2; rw [ip] at this; simp at this; omega) fun g n cap sp h1 h2 h3 h4 h5 => ?_)
    cases h1
    refine au 4 ?_
    refine aa rfl (am xz rfl (uN (T := 399) (E := 3) (sz := 1) (f := fq) (o := 2 + w * 1) (by omega) rfl)) ?_
    refine aa rfl (ag rfl) ?_
    refine aa rfl (bM kJ nk rfl rfl rfl hf.1 (by first | exact Nat.zero_add _ | rfl)) ?_
    refine aa rfl (ap rfl lM rfl cu rfl (by first | exact Nat.zero_add _ | rfl)) ?_
    refine b0 (bN cu rfl rfl rfl (by rw [List.length_append, ip]; omega) (v8 po sp f true hf.1)) ?_
    rintro _ _ rfl
    refine au 10 ?_
    refine ah (.inl rfl) (.cons (ac rfl) (.cons (ac rfl) .nil)) ?_
    rw [hf.2]
    refine ⟨_, ⟨rfl, rfl⟩, ?_⟩
    have e := eP (E := 393) (sz := 2) (g := g) (n := po.length) (cap := c) (xs := (po.set f ((w : Int), true)).flatMap dm) (sp := sp) (A := pt g (aj ((po.set f ((w : Int), true)).flatMap dm ++ sp) 393) :: kH 3 (aX (((vs.zip Ls).map cY).eraseIdx w)) :: R) (B := kH 3 (aX (((vs.zip Ls).map cY).eraseIdx w)) :: R) h2 h3 (by rw [ip, List.length_set]) (by rw [List.length_append, ip] at h5 ⊢; rw [List.length_set]; exact h5)
    exact (inferInstance : Ent _ (eY w pb (l', dZ ps (.slice (some ⟨g, 0, none⟩) po.length c) vs) :: pt g (aj ((po.set f ((w : Int), true)).flatMap dm ++ sp) 393) :: kH 3 (aX (((vs.zip Ls).map cY).eraseIdx w)) :: R)).trans ((Ent.cons e).trans (r0 hw hv rfl (by simp) hL.len hk))
def wV (w : Nat) : Value := .int .u32 (w : Int)
def ow (l : List Nat) (i : Nat) : Nat := gK ((l.drop (4 * i)).take 4)
structure Dsc where
  addr : Nat
  len : Nat
  flags : Nat
  next : Nat
structure Dsc.ok (d : Dsc) : Prop where
  addr : d.addr < 4294967296
  len : d.len < 4294967296
  flags : d.flags < 4294967296
  next : d.next < 4294967296
def Ay (l : List Nat) : Dsc := ⟨ow l 0, ow l 1, ow l 2, ow l 3⟩
def zD : Dsc := ⟨0, 0, 0, 0⟩
def vg (d : Dsc) (n : Nat) : Int := if 4 ≤ d.flags then 3 else if 64 < d.len then 4 else if d.flags % 2 = 1 ∧ n ≤ d.next then 1 else 0
structure Rg3 where
  desc : Nat
  avail : Nat
  used : Nat
  n : Int
structure Rg3.ok (r : Rg3) : Prop where
  desc : r.desc < 4294967296
  avail : r.avail < 4294967296
  used : r.used < 4294967296
def dB (x : Int × Int × Int) : List Value := [.int .i64 x.1, .int .i64 x.2.1, .int .i64 x.2.2]
structure WF (W0 : World) (fn : FuncId) (cs : List Value) (n : Nat) (C : Nat → HP) (w : Nat → Bool) : Prop where
  call : ∀ args u, (callFunc fn args).run Tryz.prog u = .ok (.enter fn args) u
  spec : ∀ i, i < n → ∀ R, ao Tryz.prog W0 fn ([] ++ [.int .i64 (i : Int)] ++ cs) (kH 0 (C i) :: R) (fun v B => v = .bool (w i) ∧ B = kH 0 (C (i + 1)) :: R)
def gx (w : Nat → Bool) (n : Nat) : Bool := (List.range n).any w
theorem lh {w : Nat → Bool} {n i : Nat} (hi : i < n) (h : w i = true) : gx w n = true := List.any_eq_true.2 ⟨i, List.mem_range.2 hi, h⟩
theorem mu {w : Nat → Bool} {n : Nat} (h : ∀ i, i < n → w i = false) : gx w n = false := by
 rw [← Bool.not_eq_true]; intro q
 obtain ⟨i, hi, hw⟩ := List.any_eq_true.1 q
 rw [h i (List.mem_range.1 hi)] at hw; cases hw
def iY (w : Nat → Bool) (n : Nat) : Option Nat := (List.range n).find? w
theorem Az (w : Nat → Bool) (n : Nat) : (iY w n).isSome = gx w n := by
 rw [Bool.eq_iff_iff, iY, List.find?_isSome, gx, List.any_eq_true]
theorem vh {w : Nat → Bool} {n i : Nat} (hi : i < n) (h : w i = true) (hj : ∀ j, j < i → w j = false) : iY w n = some i := by
 rw [iY, List.find?_eq_some_iff_getElem]
 exact ⟨h, i, by simpa using hi, by simp, fun j h2 => by simp [hj j h2]⟩
theorem vj {w : Nat → Bool} {n : Nat} (h : ∀ i, i < n → w i = false) : iY w n = none := by
 rw [iY, List.find?_eq_none]
 intro i hi; rw [h i (List.mem_range.1 hi)]; decide
theorem AA (W0 : World) (R : List HP) (fn : FuncId) (cs : List Value) (n : Nat) (C : Nat → HP) (w : Nat → Bool) (hw : WF W0 fn cs n C w) (hn : n ≤ 1000) :
  ao Tryz.prog W0 253 [.int .i64 (n : Int), .func (.func fn) #[] cs.toArray] (kH 0 (C 0) :: R) (fun v B => v = .tuple #[.int .i64 (((iY w n).getD 0 : Nat) : Int), .bool (iY w n).isSome] ∧ B = R) := by
 refine aD Tryz.func253 Tryz.ntmps253 rfl rfl ?_
 refine au 14 ?_
 refine ce (fun i : Nat => i ≤ n ∧ ∀ j, j < i → w j = false) (fun i => [(1, .func (.func fn) #[] cs.toArray), (7, .int .i64 (n : Int)), (8, .int .i64 (i : Int))]) (fun i => kH 0 (C i) :: R) (fun i => n - i) 0 ?_ ?_ ?_ ?_
 ·exact ⟨Nat.zero_le _, fun j hj => absurd hj (Nat.not_lt_zero _)⟩
 ·repeat (first | exact aJ | refine aG rfl ?_)
 ·exact inferInstance
 ·intro i ⟨hi, hj⟩
  refine au 6 ?_
  refine ai rfl ?_ ?_
  ·intro c2
   refine au 11 ?_
   have hi1 : i < n := by omega
   refine au 3 ?_
   refine ae rfl (mc (us := []) (cs := cs) rfl hw.call rfl (hw.spec i hi1 _)) ?_
   rintro _ B_ ⟨rfl, hB_⟩
   obtain rfl := hB_.symm
   refine au 2 ?_
   refine ai rfl ?_ ?_
   ·intro c4
    refine au 13 ?_
    refine ah (.inl rfl) (.cons (ac rfl) (.cons (ac rfl) .nil)) ?_
    rw [vh hi1 c4 hj]
    exact ⟨_, ⟨rfl, rfl⟩, inferInstance⟩
   ·intro c4
    refine au 4 ?_
    refine aa rfl (bj rfl rfl (by first | exact aK (by omega) | rfl)) ?_
    refine au 3 ?_
    refine bU (i + 1) ?_ ?_ ?_ ?_
    ·refine ⟨by omega, fun j h => ?_⟩
     rcases Nat.lt_or_ge j i with q | q
     ·exact hj j q
     ·rw [show j = i by omega]; simpa using c4
    ·omega
    ·repeat (first | exact aJ | refine aG rfl ?_)
    ·exact inferInstance
  ·intro c2
   refine au 12 ?_
   refine ah (.inl rfl) (.cons (ac rfl) (.cons (ac rfl) .nil)) ?_
   obtain rfl : i = n := by omega
   rw [vj hj]
   exact ⟨_, ⟨rfl, rfl⟩, inferInstance⟩
theorem vk (W0 : World) (R : List HP) (fn : FuncId) (cs : List Value) (n : Nat) (C : Nat → HP) (w : Nat → Bool) (hw : WF W0 fn cs n C w) (hn : n ≤ 1000) :
  ao Tryz.prog W0 253 [.int .i64 (n : Int), .func (.func fn) #[] cs.toArray] (kH 0 (C 0) :: R) (fun v B => ∃ r, v = .tuple #[.int .i64 r, .bool (gx w n)] ∧ B = R) :=
 iV (AA W0 R fn cs n C w hw hn) fun v B hB => by
  obtain ⟨rfl, rfl⟩ := hB
  rw [Az]
  exact ⟨_, ⟨_, rfl, rfl⟩, ent_refl⟩
def dp (l cats : Int) : Bool := decide (0 ≤ cats ∧ cats ≤ 8) && dh l && decide (kO .i64 l cats = 0)
theorem ri (W0 : World) (R : List HP) (l cats : Int) : ao Tryz.prog W0 128 [.int .i64 l, .int .i64 cats] R (fun v B => v = .bool (dp l cats) ∧ B = R) := by
 refine aD Tryz.func128 Tryz.ntmps128 rfl rfl ?_
 refine au 15 ?_
 refine ai rfl ?_ ?_
 ·intro c1
  refine au 11 ?_
  refine ah (.inl rfl) (.cons (ac rfl) .nil) ?_
  have hv : dp l cats = false := by
   rw [← Bool.not_eq_true, dp]; intro q
   simp only [Bool.and_eq_true, decide_eq_true_iff] at q
   first
    | omega
    | (have := q.1.2; simp_all)
  rw [hv]; exact ⟨_, ⟨rfl, rfl⟩, inferInstance⟩
 ·intro c1
  refine au 7 ?_
  refine ai rfl ?_ ?_
  ·intro c2
   refine au 11 ?_
   refine ah (.inl rfl) (.cons (ac rfl) .nil) ?_
   have hv : dp l cats = false := by
    rw [← Bool.not_eq_true, dp]; intro q
    simp only [Bool.and_eq_true, decide_eq_true_iff] at q
    first
     | omega
     | (have := q.1.2; simp_all)
   rw [hv]; exact ⟨_, ⟨rfl, rfl⟩, inferInstance⟩
  ·intro c2
   refine au 2 ?_
   refine ae rfl (aF t1 rfl (oe W0 _ l)) ?_
   rintro _ B_ ⟨rfl, hB_⟩
   obtain rfl := hB_.symm
   refine au 4 ?_
   refine ai rfl ?_ ?_
   ·intro c3
    refine au 8 ?_
    refine ah (.inl rfl) (.cons (ac rfl) .nil) ?_
    have hv : dp l cats = false := by
     rw [← Bool.not_eq_true, dp]; intro q
     simp only [Bool.and_eq_true, decide_eq_true_iff] at q
     first
      | omega
      | (have := q.1.2; simp_all)
    rw [hv]; exact ⟨_, ⟨rfl, rfl⟩, inferInstance⟩
   ·intro c3
    refine au 7 ?_
    refine aa rfl (nB rfl rfl (by omega) rfl) ?_
    refine au 5 ?_
    refine ah (.inl rfl) (.cons (ac rfl) .nil) ?_
    refine ⟨_, ⟨?_, rfl⟩, inferInstance⟩
    refine congrArg Value.bool ?_
    rw [Bool.eq_iff_iff, dp]
    simp only [Bool.and_eq_true, decide_eq_true_iff]
    constructor
    ·intro q
     refine ⟨⟨by omega, by simp_all⟩, by simpa using q⟩
    ·intro q
     simpa using q.2
structure Cfg where
  cats : Int
  ga : Option Addr
  gc : Nat
  gl : List (Int × Int × Int)
  ra : Option Addr
  rc : Nat
  rl : List (Int × Int × Int)
  pa : Option Addr
  pc : Nat
  pl : List (Int × Int)
  na : Option Addr
  nc : Nat
  nl : List (Int × Int)
  sa : Option Addr
  sc : Nat
  sl : List (Int × Int)
  gate : Int
  quota : Int
@[reducible] def bF (c : Cfg) : List Value := [.int .i64 c.cats, .slice c.ga c.gl.length c.gc, .slice c.ra c.rl.length c.rc, .slice c.pa c.pl.length c.pc, .slice c.na c.nl.length c.nc, .slice c.sa c.sl.length c.sc, .int .i64 c.gate, .int .i64 c.quota]
def iF (cats : Int) (g : Int × Int × Int) : Bool := !(dp g.1 cats && decide (1 ≤ g.2.1 ∧ g.2.1 ≤ 8 ∧ 0 ≤ g.2.2 ∧ g.2.2 ≤ 8 - g.2.1))
theorem mw {cats : Int} {g : Int × Int × Int} : iF cats g = false ↔ dp g.1 cats = true ∧ 1 ≤ g.2.1 ∧ g.2.1 ≤ 8 ∧ 0 ≤ g.2.2 ∧ g.2.2 ≤ 8 - g.2.1 := by
 rw [iF]; simp only [Bool.not_eq_false', Bool.and_eq_true, decide_eq_true_iff]
theorem jF {cats : Int} {g : Int × Int × Int} (h : ¬ (dp g.1 cats = true ∧ 1 ≤ g.2.1 ∧ g.2.1 ≤ 8 ∧ 0 ≤ g.2.2 ∧ g.2.2 ≤ 8 - g.2.1)) : iF cats g = true := by
 rw [← Bool.not_eq_false, mw]; exact h
theorem AB (W0 : World) (b1 : Nat) (c : Cfg) (hs : ∀ A, bT (bu W0 A) c.ga 3 dB c.gl) :
    WF W0 259 [.pointer (some ⟨b1, 0, none⟩)] c.gl.length (fun _ => aX [pt b1 (aj (bF c) 29)]) (fun i => iF c.cats (c.gl.getD i (0, 0, 0))) := ⟨Tryz.call259, fun i hi R => by
  refine l9 ?_
  simp only [List.cons_append, List.nil_append]
  obtain ⟨cats, ga, gc, gl, ra, rc, rl, pa, pc, pl, na, nc, nl, sa, sc, sl, gate, quota⟩ := c
  dsimp only at hs hi ⊢
  obtain ⟨g, o, rfl, hc⟩ := (hs (pt b1 (aj (bF ⟨cats, ga, gc, gl, ra, rc, rl, pa, pc, pl, na, nc, nl, sa, sc, sl, gate, quota⟩) 29) :: R)).at_ hi
  obtain ⟨x, hx⟩ : ∃ x, gl[i] = x := ⟨_, rfl⟩
  rw [show gl.getD i (0, 0, 0) = x by simp [List.getD, hi, hx]]
  rw [hx] at hc
  refine d5 Tryz.func259 Tryz.ntmps259 rfl rfl ?_
  refine al (az (aa rfl (ax rfl) (aw (ak (al (az ?_))))))
  refine aa rfl (ap rfl cG rfl fc rfl (by first | exact Nat.zero_add _ | rfl)) ?_
  refine aa rfl (am fA rfl (aH rfl)) ?_
  refine aa rfl (ag rfl) ?_
  refine aa rfl (bM eC ei rfl rfl rfl hi (by first | exact Nat.zero_add _ | rfl)) ?_
  refine aa rfl (cj td ei rfl hc.weak rfl) ?_
  refine ae rfl (cd lR) ?_
  rintro _ _ ⟨bx, rfl, rfl⟩
  refine b0 (bS ei rfl rfl rfl rfl rfl) ?_
  rintro _ _ rfl
  refine aw (ak (al (dt (al (az ?_)))))
  refine aa rfl (ap rfl dC rfl ar rfl (by first | exact Nat.zero_add _ | rfl)) ?_
  refine aa rfl (am aT rfl (aH rfl)) ?_
  refine aa rfl (ap rfl cG rfl ar rfl (by first | exact Nat.zero_add _ | rfl)) ?_
  refine aa rfl (am aT rfl (aH rfl)) ?_
  refine ae rfl (aF xZ rfl (ri W0 _ x.1 cats)) ?_
  rintro _ B_ ⟨rfl, hB_⟩
  obtain rfl := hB_.symm
  refine aa rfl (fM rfl) (aa rfl (ax rfl) (aw (ak ?_)))
  refine ai rfl ?_ ?_
  · intro c2
    refine al (az (aa rfl (ax rfl) (aw (ak (bY (dO (cn (ah (.inl rfl) (.cons (ac rfl) .nil) ?_))))))))
    rw [jF (fun q => by simp_all)]
    exact ⟨_, ⟨rfl, rfl⟩, inferInstance⟩
  · intro c2
    refine al (al (az ?_))
    refine aa rfl (ap rfl dC rfl ar rfl (by first | exact Nat.zero_add _ | rfl)) ?_
    refine aa rfl (am aT rfl (aH rfl)) ?_
    refine aa rfl (eO rfl rfl) (aa rfl (ax rfl) (aw (ak ?_)))
    refine ai rfl ?_ ?_
    · intro c4
      refine cy (ak (iT rfl (al (az (aa rfl (ax rfl) (aw (ak (bY (dO (cn (ah (.inl rfl) (.cons (ac rfl) .nil) ?_)))))))))))
      rw [jF (fun q => by omega)]
      exact ⟨_, ⟨rfl, rfl⟩, inferInstance⟩
    · intro c4
      refine az ?_
      refine aa rfl (ap rfl dC rfl ar rfl (by first | exact Nat.zero_add _ | rfl)) ?_
      refine aa rfl (am aT rfl (aH rfl)) ?_
      refine aa rfl (iP rfl rfl) (aa rfl (ax rfl) (aw (ak ?_)))
      refine ai rfl ?_ ?_
      · intro c5
        refine al (az (aa rfl (ax rfl) (aw (ak (bY (dO (cn (ah (.inl rfl) (.cons (ac rfl) .nil) ?_))))))))
        rw [jF (fun q => by omega)]
        exact ⟨_, ⟨rfl, rfl⟩, inferInstance⟩
      · intro c5
        refine cy (fY (ak (al (az ?_))))
        refine aa rfl (ap rfl dC rfl ar rfl (by first | exact Nat.zero_add _ | rfl)) ?_
        refine aa rfl (am aT rfl (aH rfl)) ?_
        refine aa rfl (eO rfl rfl) (aa rfl (ag rfl) ?_)
        refine aZ rfl rfl rfl ?_ ?_
        · intro g7_4
          refine bK rfl rfl rfl rfl (bK rfl rfl rfl rfl (bK rfl rfl rfl rfl (bK rfl rfl rfl rfl (bK rfl rfl rfl rfl (aa rfl (cV rfl rfl) (aa rfl (ax rfl) (aw (ak (bY (ah (.inl rfl) (.cons (ac rfl) .nil) ?_))))))))))
          first
            | (rw [jF (fun q => by omega)]; exact ⟨_, ⟨rfl, rfl⟩, inferInstance⟩)
            | (refine ⟨_, ⟨?_, rfl⟩, inferInstance⟩
               refine congrArg Value.bool ?_
               rw [Bool.eq_iff_iff, decide_eq_true_iff]
               constructor
               · intro q; exact jF (fun q2 => by omega)
               · intro q
                 apply Decidable.byContradiction
                 intro q2
                 rw [mw.2 ⟨by simp_all, by omega, by omega, by omega, by omega⟩] at q; cases q)
        · intro g7_4
          refine aa rfl (ap rfl dC rfl ar rfl (by first | exact Nat.zero_add _ | rfl)) ?_
          refine aY rfl rfl (aa rfl (am aT rfl (aH rfl)) ?_)
          refine aY rfl rfl ?_
          refine aa rfl (ap rfl dC rfl ar rfl (by first | exact Nat.zero_add _ | rfl)) ?_
          refine aY rfl rfl (aa rfl (am aT rfl (aH rfl)) ?_)
          refine aY rfl rfl ?_
          refine aa rfl (dG rfl rfl (aK (by omega))) ?_
          refine aY rfl rfl (aa rfl (iP rfl rfl) (aa rfl (d4 rfl rfl) (aa rfl (ax rfl) (aw (ak (bY (ah (.inl rfl) (.cons (ac rfl) .nil) ?_)))))))
          first
            | (rw [jF (fun q => by omega)]; exact ⟨_, ⟨rfl, rfl⟩, inferInstance⟩)
            | (refine ⟨_, ⟨?_, rfl⟩, inferInstance⟩
               refine congrArg Value.bool ?_
               rw [Bool.eq_iff_iff, decide_eq_true_iff]
               constructor
               · intro q; exact jF (fun q2 => by omega)
               · intro q
                 apply Decidable.byContradiction
                 intro q2
                 rw [mw.2 ⟨by simp_all, by omega, by omega, by omega, by omega⟩] at q; cases q)
  ⟩
theorem oy (W0 : World) (R : List HP) (fn : FuncId) (cs : List Value) (n b : Nat) (o : Obj) (w : Nat → Bool) (hw : WF W0 fn cs n (fun _ => aX [pt b o]) w) (hn : n ≤ 1000) :
  ao Tryz.prog W0 253 [.int .i64 (n : Int), .func (.func fn) #[] cs.toArray] (pt b o :: R) (fun v B => ∃ r, v = .tuple #[.int .i64 r, .bool (gx w n)] ∧ B = R) :=
 iX (B := kH 0 (aX [pt b o]) :: R) (fC (A := [pt b o])) (vk W0 R fn cs n (fun _ => aX [pt b o]) w hw hn)
def f7 (c : Cfg) : Bool := decide (c.gl.length < 1 ∨ 4 < c.gl.length) || gx (fun i => iF c.cats (c.gl.getD i (0, 0, 0))) c.gl.length
theorem AC (W0 : World) (R : List HP) (c : Cfg) (hs : ∀ A, bT (bu W0 A) c.ga 3 dB c.gl) :
  ao Tryz.prog W0 143 [.agg (bF c).toArray] R (fun v B => ∃ r, v = .tuple #[.int .i64 r, .bool (f7 c)] ∧ B = R) := by
 obtain ⟨w, hw⟩ : ∃ w, (fun i => iF c.cats (c.gl.getD i (0, 0, 0))) = w := ⟨_, rfl⟩
 have hG : f7 c = (decide (c.gl.length < 1 ∨ 4 < c.gl.length) || gx w c.gl.length) := by rw [f7, hw]
 refine aD Tryz.func143 Tryz.ntmps143 rfl rfl ?_
 refine au 2 ?_
 refine ae rfl (bw rfl) ?_
 rintro _ _ ⟨b1, rfl, rfl⟩
 refine au 12 ?_
 refine aZ rfl rfl rfl ?_ ?_
 ·intro g1_5
  refine au 15 ?_
  refine ah (.inl rfl) (.cons (ac rfl) (.cons (ac rfl) .nil)) ?_
  rw [hG, decide_eq_true (by omega), Bool.true_or]
  exact ⟨_, ⟨0, rfl, rfl⟩, inferInstance⟩
 ·intro g1_5
  refine au 10 ?_
  refine ai rfl ?_ ?_
  ·intro c1
   refine au 8 ?_
   refine ah (.inl rfl) (.cons (ac rfl) (.cons (ac rfl) .nil)) ?_
   rw [hG, decide_eq_true (by omega), Bool.true_or]
   exact ⟨_, ⟨0, rfl, rfl⟩, inferInstance⟩
  ·intro c1
   refine au 7 ?_
   refine aa rfl (i7 rfl rfl) ?_
   refine ae rfl (aM pD rfl (oy W0 _ 259 [.pointer (some ⟨b1, 0, none⟩)] c.gl.length b1 _ w (hw ▸ AB W0 b1 c hs) (by omega))) ?_
   rintro _ B_ ⟨r, rfl, hB_⟩
   obtain rfl := hB_.symm
   refine au 7 ?_
   refine ah (.inl rfl) (.cons (ac rfl) (.cons (ac rfl) .nil)) ?_
   rw [hG, decide_eq_false (by omega), Bool.false_or]
   exact ⟨_, ⟨r, rfl, rfl⟩, inferInstance⟩
def dK (c : Cfg) (i : Int) : Bool := decide (0 ≤ i ∧ i < c.gl.length)
theorem ko (W0 : World) (R : List HP) (c : Cfg) (i : Int) : ao Tryz.prog W0 264 [.agg (bF c).toArray, .int .i64 i] R (fun v B => v = .bool (dK c i) ∧ B = R) := by
  refine aD Tryz.func264 Tryz.ntmps264 rfl rfl ?_
  refine au 2 ?_
  refine ae rfl (bw rfl) ?_
  rintro _ _ ⟨b1, rfl, rfl⟩
  refine au 8 ?_
  refine bX rfl rfl rfl ?_ ?_
  · intro g1_3
    refine au 14 ?_
    refine ah (.inl rfl) (.cons (ac rfl) .nil) ?_
    refine ⟨_, ⟨?_, rfl⟩, inferInstance⟩
    refine congrArg Value.bool ?_
    rw [Bool.eq_iff_iff, dK, decide_eq_true_iff]
    first
      | (rw [decide_eq_true_iff]; constructor
         · intro q; omega
         · intro q; omega)
      | (constructor
         · intro q; first | omega | (cases q)
         · intro q; omega)
  · intro g1_3
    refine au 9 ?_
    refine ah (.inl rfl) (.cons (ac rfl) .nil) ?_
    refine ⟨_, ⟨?_, rfl⟩, inferInstance⟩
    refine congrArg Value.bool ?_
    rw [Bool.eq_iff_iff, dK, decide_eq_true_iff]
    first
      | (rw [decide_eq_true_iff]; constructor
         · intro q; omega
         · intro q; omega)
      | (constructor
         · intro q; first | omega | (cases q)
         · intro q; omega)
@[reducible] def cM (x : Int × Int) : List Value := [.int .i64 x.1, .int .i64 x.2]
def ir (c : Cfg) (s : Int × Int) : Bool := !(dK c s.1 && decide (1 ≤ s.2 ∧ s.2 ≤ 32))
theorem AD (W0 : World) (b1 : Nat) (c : Cfg) (hs : ∀ A, bT (bu W0 A) c.sa 2 cM c.sl) :
  WF W0 268 [.pointer (some ⟨b1, 0, none⟩)] c.sl.length (fun _ => aX [pt b1 (aj (bF c) 29)]) (fun i => ir c (c.sl.getD i (0, 0))) := ⟨Tryz.call268, fun i hi R => by
 refine l9 ?_
 simp only [List.cons_append, List.nil_append]
 obtain ⟨g, o, hga, hc⟩ := (hs (pt b1 (aj (bF c) 29) :: R)).at_ hi
 obtain ⟨x, hx⟩ : ∃ x, c.sl[i] = x := ⟨_, rfl⟩
 rw [show c.sl.getD i (0, 0) = x by simp [List.getD, hi, hx]]
 rw [hx] at hc
 obtain ⟨w, hw⟩ : ∃ w, dK c x.1 = w := ⟨_, rfl⟩
 have hW : ir c x = !(w && decide (1 ≤ x.2 ∧ x.2 ≤ 32)) := by rw [ir, hw]
 rw [hW]
 obtain ⟨cats, ga, gc, gl, ra, rc, rl, pa, pc, pl, na, nc, nl, sa, sc, sl, gate, quota⟩ := c
 dsimp only at hs hi hga hc hw ⊢
 subst hga
 refine aD Tryz.func268 Tryz.ntmps268 rfl rfl ?_
 refine au 10 ?_
 refine aa rfl (bM px lS rfl rfl rfl hi (by first | exact Nat.zero_add _ | rfl)) ?_
 refine aa rfl (cj Tryz.isAgg74 lS rfl hc.weak rfl) ?_
 refine ae rfl (cd te) ?_
 rintro _ _ ⟨bx, rfl, rfl⟩
 refine b0 (bS lS rfl rfl rfl rfl rfl) ?_
 rintro _ _ rfl
 refine au 7 ?_
 refine ae rfl (aF lT rfl (ko W0 _ ⟨cats, ga, gc, gl, ra, rc, rl, pa, pc, pl, na, nc, nl, some ⟨g, o, none⟩, sc, sl, gate, quota⟩ x.1)) ?_
 rintro _ B_ ⟨rfl, hB_⟩
 obtain rfl := hB_.symm
 rw [hw]
 refine au 2 ?_
 refine aZ rfl rfl rfl ?_ ?_
 ·intro g2_6
  refine au 12 ?_
  refine ah (.inl rfl) (.cons (ac rfl) .nil) ?_
  refine ⟨_, ⟨?_, rfl⟩, inferInstance⟩
  refine congrArg Value.bool ?_
  rw [Bool.eq_iff_iff]
  cases w <;> simp_all <;> omega
 ·intro g2_6
  refine au 7 ?_
  refine aZ rfl rfl rfl ?_ ?_
  ·intro g2_11
   refine au 7 ?_
   refine ah (.inl rfl) (.cons (ac rfl) .nil) ?_
   refine ⟨_, ⟨?_, rfl⟩, inferInstance⟩
   refine congrArg Value.bool ?_
   rw [Bool.eq_iff_iff]
   cases w <;> simp_all <;> omega
  ·intro g2_11
   refine au 10 ?_
   refine ah (.inl rfl) (.cons (ac rfl) .nil) ?_
   refine ⟨_, ⟨?_, rfl⟩, inferInstance⟩
   refine congrArg Value.bool ?_
   rw [Bool.eq_iff_iff]
   cases w <;> simp_all <;> omega
 ⟩
def gP (c : Cfg) : Bool := decide (c.sl.length < 1 ∨ 8 < c.sl.length) || gx (fun i => ir c (c.sl.getD i (0, 0))) c.sl.length
theorem AE (W0 : World) (R : List HP) (c : Cfg) (hs : ∀ A, bT (bu W0 A) c.sa 2 cM c.sl) :
  ao Tryz.prog W0 147 [.agg (bF c).toArray] R (fun v B => ∃ r, v = .tuple #[.int .i64 r, .bool (gP c)] ∧ B = R) := by
 obtain ⟨w, hw⟩ : ∃ w, (fun i => ir c (c.sl.getD i (0, 0))) = w := ⟨_, rfl⟩
 have hG : gP c = (decide (c.sl.length < 1 ∨ 8 < c.sl.length) || gx w c.sl.length) := by rw [gP, hw]
 refine aD Tryz.func147 Tryz.ntmps147 rfl rfl ?_
 refine au 2 ?_
 refine ae rfl (bw rfl) ?_
 rintro _ _ ⟨b1, rfl, rfl⟩
 refine au 12 ?_
 refine aZ rfl rfl rfl ?_ ?_
 ·intro g1_5
  refine au 15 ?_
  refine ah (.inl rfl) (.cons (ac rfl) (.cons (ac rfl) .nil)) ?_
  rw [hG, decide_eq_true (by omega), Bool.true_or]
  exact ⟨_, ⟨0, rfl, rfl⟩, inferInstance⟩
 ·intro g1_5
  refine au 10 ?_
  refine ai rfl ?_ ?_
  ·intro c1
   refine au 8 ?_
   refine ah (.inl rfl) (.cons (ac rfl) (.cons (ac rfl) .nil)) ?_
   rw [hG, decide_eq_true (by omega), Bool.true_or]
   exact ⟨_, ⟨0, rfl, rfl⟩, inferInstance⟩
  ·intro c1
   refine au 7 ?_
   refine aa rfl (i7 rfl rfl) ?_
   refine ae rfl (aM pD rfl (oy W0 _ 268 [.pointer (some ⟨b1, 0, none⟩)] c.sl.length b1 _ w (hw ▸ AD W0 b1 c hs) (by omega))) ?_
   rintro _ B_ ⟨r, rfl, hB_⟩
   obtain rfl := hB_.symm
   refine au 7 ?_
   refine ah (.inl rfl) (.cons (ac rfl) (.cons (ac rfl) .nil)) ?_
   rw [hG, decide_eq_false (by omega), Bool.false_or]
   exact ⟨_, ⟨r, rfl, rfl⟩, inferInstance⟩
def fQ (c : Cfg) : Bool := if c.gate = -1 then decide (c.quota ≠ 0) else !(dK c c.gate && decide (0 ≤ c.quota ∧ c.quota ≤ 64))
theorem AF (W0 : World) (R : List HP) (c : Cfg) : ao Tryz.prog W0 148 [.agg (bF c).toArray] R (fun v B => v = .bool (fQ c) ∧ B = R) := by
 obtain ⟨w, hw⟩ : ∃ w, dK c c.gate = w := ⟨_, rfl⟩
 have hW : fQ c = if c.gate = -1 then decide (c.quota ≠ 0) else !(w && decide (0 ≤ c.quota ∧ c.quota ≤ 64)) := by rw [fQ, hw]
 rw [hW]
 refine aD Tryz.func148 Tryz.ntmps148 rfl rfl ?_
 refine au 2 ?_
 refine ae rfl (bw rfl) ?_
 rintro _ _ ⟨b1, rfl, rfl⟩
 refine au 20 ?_
 refine ai rfl ?_ ?_
 ·intro c1
  refine au 21 ?_
  refine ah (.inl rfl) (.cons (ac rfl) .nil) ?_
  refine ⟨_, ⟨?_, rfl⟩, inferInstance⟩
  refine congrArg Value.bool ?_
  rw [Bool.eq_iff_iff]
  cases w <;> simp_all <;> omega
 ·intro c1
  refine au 8 ?_
  refine ae rfl (aF lT rfl (ko W0 _ c c.gate)) ?_
  rintro _ B_ ⟨rfl, hB_⟩
  obtain rfl := hB_.symm
  rw [hw]
  refine au 4 ?_
  refine ai rfl ?_ ?_
  ·intro c2
   refine au 18 ?_
   refine ah (.inl rfl) (.cons (ac rfl) .nil) ?_
   refine ⟨_, ⟨?_, rfl⟩, inferInstance⟩
   refine congrArg Value.bool ?_
   rw [Bool.eq_iff_iff]
   cases w <;> simp_all <;> omega
  ·intro c2
   refine au 11 ?_
   refine ai rfl ?_ ?_
   ·intro c3
    refine au 20 ?_
    refine ah (.inl rfl) (.cons (ac rfl) .nil) ?_
    refine ⟨_, ⟨?_, rfl⟩, inferInstance⟩
    refine congrArg Value.bool ?_
    rw [Bool.eq_iff_iff]
    cases w <;> simp_all <;> omega
   ·intro c3
    refine au 7 ?_
    refine ai rfl ?_ ?_
    ·intro c4
     refine au 17 ?_
     refine ah (.inl rfl) (.cons (ac rfl) .nil) ?_
     refine ⟨_, ⟨?_, rfl⟩, inferInstance⟩
     refine congrArg Value.bool ?_
     rw [Bool.eq_iff_iff]
     cases w <;> simp_all <;> omega
    ·intro c4
     refine au 16 ?_
     refine ah (.inl rfl) (.cons (ac rfl) .nil) ?_
     refine ⟨_, ⟨?_, rfl⟩, inferInstance⟩
     refine congrArg Value.bool ?_
     rw [Bool.eq_iff_iff]
     cases w <;> simp_all <;> omega
def f8 (c : Cfg) (i : Int) : Int := (c.gl.getD i.toNat (0, 0, 0)).1
def fR (c : Cfg) (x : Int × Int) : Bool := !(dK c x.1 && dK c x.2 && decide (x.1 ≠ x.2) && io (f8 c x.1) (f8 c x.2))
theorem AG (W0 : World) (b1 : Nat) (c : Cfg) (hs : ∀ A, bT (bu W0 A) c.na 2 cM c.nl) (hgs : ∀ A, bT (bu W0 A) c.ga 3 dB c.gl) :
  WF W0 266 [.pointer (some ⟨b1, 0, none⟩)] c.nl.length (fun _ => aX [pt b1 (aj (bF c) 29)]) (fun i => fR c (c.nl.getD i (0, 0))) := ⟨Tryz.call266, fun i hi R => by
 refine l9 ?_
 simp only [List.cons_append, List.nil_append]
 obtain ⟨g, o, hga, hc⟩ := (hs (pt b1 (aj (bF c) 29) :: R)).at_ hi
 obtain ⟨x, hx⟩ : ∃ x, c.nl[i] = x := ⟨_, rfl⟩
 rw [show c.nl.getD i (0, 0) = x by simp [List.getD, hi, hx]]
 rw [hx] at hc
 obtain ⟨p, q⟩ := x
 obtain ⟨w1, hw1⟩ : ∃ w, dK c p = w := ⟨_, rfl⟩
 obtain ⟨w2, hw2⟩ : ∃ w, dK c q = w := ⟨_, rfl⟩
 have hW : fR c (p, q) = !(w1 && w2 && decide (p ≠ q) && io (f8 c p) (f8 c q)) := by rw [fR, hw1, hw2]
 by_cases hb : w1 = true ∧ w2 = true
 ·obtain ⟨rfl, rfl⟩ := hb
  have h1 : 0 ≤ p ∧ p < c.gl.length := of_decide_eq_true hw1
  have h2 : 0 ≤ q ∧ q < c.gl.length := of_decide_eq_true hw2
  obtain ⟨j, rfl⟩ : ∃ j : Nat, p = (j : Int) := ⟨p.toNat, by omega⟩
  obtain ⟨k, rfl⟩ : ∃ k : Nat, q = (k : Int) := ⟨q.toNat, by omega⟩
  have hj : j < c.gl.length := by omega
  have hk : k < c.gl.length := by omega
  obtain ⟨u, hu⟩ : ∃ u, c.gl[j] = u := ⟨_, rfl⟩
  obtain ⟨v, hv⟩ : ∃ v, c.gl[k] = v := ⟨_, rfl⟩
  have hl1 : f8 c (j : Int) = u.1 := by rw [f8, Int.toNat_natCast]; simp [List.getD, hj, hu]
  have hl2 : f8 c (k : Int) = v.1 := by rw [f8, Int.toNat_natCast]; simp [List.getD, hk, hv]
  rw [hl1, hl2] at hW
  rw [hW]
  obtain ⟨gg, og, hgg, hcj⟩ := (hgs (pt b1 (aj (bF c) 29) :: R)).at_ hj
  obtain ⟨gh, oh, hgh, hck⟩ := (hgs (pt b1 (aj (bF c) 29) :: R)).at_ hk
  rw [hu] at hcj
  rw [hv] at hck
  obtain ⟨cats, ga, gc, gl, ra, rc, rl, pa, pc, pl, na, nc, nl, sa, sc, sl, gate, quota⟩ := c
  dsimp only at hi hga hc hw1 hw2 hj hk hgg hgh hcj hck ⊢
  subst hga
  subst hgg
  obtain ⟨rfl, rfl⟩ : gg = gh ∧ og = oh := by cases hgh; exact ⟨rfl, rfl⟩
  refine aD Tryz.func266 Tryz.ntmps266 rfl rfl ?_
  refine au 10 ?_
  refine aa rfl (bM gk dT rfl rfl rfl hi (by first | exact Nat.zero_add _ | rfl)) ?_
  refine aa rfl (cj kF dT rfl hc.weak rfl) ?_
  refine ae rfl (cd gY) ?_
  rintro _ _ ⟨bx, rfl, rfl⟩
  refine b0 (bS dT rfl rfl rfl rfl rfl) ?_
  rintro _ _ rfl
  refine au 8 ?_
  refine ae rfl (aF lT rfl (ko W0 _ ⟨cats, some ⟨gg, og, none⟩, gc, gl, ra, rc, rl, pa, pc, pl, some ⟨g, o, none⟩, nc, nl, sa, sc, sl, gate, quota⟩ (j : Int))) ?_
  rintro _ B_ ⟨rfl, hB_⟩
  obtain rfl := hB_.symm
  rw [hw1]
  refine au 2 ?_
  refine aZ rfl rfl rfl ?_ ?_
  ·intro g2_6
   exact absurd rfl g2_6
  ·intro g2_6
   refine au 6 ?_
   refine ae rfl (aF lT rfl (ko W0 _ ⟨cats, some ⟨gg, og, none⟩, gc, gl, ra, rc, rl, pa, pc, pl, some ⟨g, o, none⟩, nc, nl, sa, sc, sl, gate, quota⟩ (k : Int))) ?_
   rintro _ B_ ⟨rfl, hB_⟩
   obtain rfl := hB_.symm
   rw [hw2]
   refine au 4 ?_
   refine aZ rfl rfl rfl ?_ ?_
   ·intro g2_13
    exact absurd rfl g2_13
   ·intro g2_13
    refine au 12 ?_
    refine ai rfl ?_ ?_
    ·intro c2
     refine au 7 ?_
     refine ah (.inl rfl) (.cons (ac rfl) .nil) ?_
     refine ⟨_, ⟨?_, rfl⟩, inferInstance⟩
     refine congrArg Value.bool ?_
     rw [Bool.eq_iff_iff]
     simp_all
    ·intro c2
     refine au 3 ?_
     refine bR [(b1, 0, _), (bx, 0, _), (gg, og + j * 3, dB u), (gg, og + k * 3, dB v)] 17 bQ rfl (aC (aC (cm hcj.weak (cm hck.weak aB)))) (fun hS => ?_)
     refine ab 0 rfl rfl rfl hS (ap rfl cG rfl fc rfl (by first | exact Nat.zero_add _ | rfl)) ?_
     refine ab 1 rfl rfl rfl hS (am fA rfl (by first | exact av (k := 0) rfl rfl | exact av (k := 1) rfl rfl | exact av (k := 2) rfl rfl | exact av (k := 3) rfl rfl)) ?_
     refine ab 2 rfl rfl rfl hS (ap rfl fe rfl ar rfl (by first | exact Nat.zero_add _ | rfl)) ?_
     refine ab 3 rfl rfl rfl hS (am aT rfl (by first | exact av (k := 0) rfl rfl | exact av (k := 1) rfl rfl | exact av (k := 2) rfl rfl | exact av (k := 3) rfl rfl)) ?_
     refine ab 4 rfl rfl rfl hS (bM eC ei rfl rfl rfl hj (by first | exact Nat.zero_add _ | rfl)) ?_
     refine ab 5 rfl rfl rfl hS (ap rfl dC rfl ar rfl (by first | exact Nat.zero_add _ | rfl)) ?_
     refine ab 6 rfl rfl rfl hS (am aT rfl (f6 (k := 2) (j := 0) rfl rfl)) ?_
     refine ab 7 rfl rfl rfl hS (ap rfl cG rfl fc rfl (by first | exact Nat.zero_add _ | rfl)) ?_
     refine ab 8 rfl rfl rfl hS (am fA rfl (by first | exact av (k := 0) rfl rfl | exact av (k := 1) rfl rfl | exact av (k := 2) rfl rfl | exact av (k := 3) rfl rfl)) ?_
     refine ab 9 rfl rfl rfl hS (ap rfl fe rfl ar rfl (by first | exact Nat.zero_add _ | rfl)) ?_
     refine ab 10 rfl rfl rfl hS (am aT rfl (by first | exact av (k := 0) rfl rfl | exact av (k := 1) rfl rfl | exact av (k := 2) rfl rfl | exact av (k := 3) rfl rfl)) ?_
     refine ab 11 rfl rfl rfl hS (bM eC ei rfl rfl rfl hk (by first | exact Nat.zero_add _ | rfl)) ?_
     refine ab 12 rfl rfl rfl hS (ap rfl dC rfl ar rfl (by first | exact Nat.zero_add _ | rfl)) ?_
     refine ab 13 rfl rfl rfl hS (am aT rfl (f6 (k := 3) (j := 0) rfl rfl)) ?_
     refine aW 14 (by kernel_rfl) rfl rfl (aF Tryz.call267 rfl (A2 W0 _ u.1 v.1)) rfl ?_; clear hS
     rintro _ B_ ⟨rfl, hB_⟩
     obtain rfl := hB_.symm
     refine ⟨(aC (aC (cm hcj.weak (cm hck.weak aB)))), fun hS => ?_⟩
     refine ab 15 rfl rfl rfl hS (fM rfl) ?_
     refine ab 16 rfl rfl rfl hS (ax rfl) ?_
     refine bz (by kernel_rfl) ?_; clear hS
     refine au 2 ?_
     refine ah (.inl rfl) (.cons (ac rfl) .nil) ?_
     refine ⟨_, ⟨?_, rfl⟩, inferInstance⟩
     refine congrArg Value.bool ?_
     rw [Bool.eq_iff_iff]
     simp_all
 ·have hW2 : fR c (p, q) = true := by
   rw [hW]; cases w1 <;> cases w2 <;> simp_all
  rw [hW2]
  obtain ⟨cats, ga, gc, gl, ra, rc, rl, pa, pc, pl, na, nc, nl, sa, sc, sl, gate, quota⟩ := c
  dsimp only at hi hga hc hw1 hw2 ⊢
  subst hga
  refine aD Tryz.func266 Tryz.ntmps266 rfl rfl ?_
  refine au 10 ?_
  refine aa rfl (bM gk dT rfl rfl rfl hi (by first | exact Nat.zero_add _ | rfl)) ?_
  refine aa rfl (cj kF dT rfl hc.weak rfl) ?_
  refine ae rfl (cd gY) ?_
  rintro _ _ ⟨bx, rfl, rfl⟩
  refine b0 (bS dT rfl rfl rfl rfl rfl) ?_
  rintro _ _ rfl
  refine au 8 ?_
  refine ae rfl (aF lT rfl (ko W0 _ ⟨cats, ga, gc, gl, ra, rc, rl, pa, pc, pl, some ⟨g, o, none⟩, nc, nl, sa, sc, sl, gate, quota⟩ p)) ?_
  rintro _ B_ ⟨rfl, hB_⟩
  obtain rfl := hB_.symm
  rw [hw1]
  refine au 2 ?_
  refine aZ rfl rfl rfl ?_ ?_
  ·intro g2_6
   refine au 22 ?_
   refine ah (.inl rfl) (.cons (ac rfl) .nil) ?_
   exact ⟨_, ⟨rfl, rfl⟩, inferInstance⟩
  ·intro g2_6
   refine au 6 ?_
   refine ae rfl (aF lT rfl (ko W0 _ ⟨cats, ga, gc, gl, ra, rc, rl, pa, pc, pl, some ⟨g, o, none⟩, nc, nl, sa, sc, sl, gate, quota⟩ q)) ?_
   rintro _ B_ ⟨rfl, hB_⟩
   obtain rfl := hB_.symm
   rw [hw2]
   refine au 4 ?_
   refine aZ rfl rfl rfl ?_ ?_
   ·intro g2_13
    refine au 15 ?_
    refine ah (.inl rfl) (.cons (ac rfl) .nil) ?_
    exact ⟨_, ⟨rfl, rfl⟩, inferInstance⟩
   ·intro g2_13
    exfalso; cases w1 <;> cases w2 <;> simp_all
 ⟩
def eI (c : Cfg) : Bool := decide (4 < c.nl.length) || gx (fun i => fR c (c.nl.getD i (0, 0))) c.nl.length
theorem AH (W0 : World) (R : List HP) (c : Cfg) (hs : ∀ A, bT (bu W0 A) c.na 2 cM c.nl) (hgs : ∀ A, bT (bu W0 A) c.ga 3 dB c.gl) :
  ao Tryz.prog W0 146 [.agg (bF c).toArray] R (fun v B => ∃ r, v = .tuple #[.int .i64 r, .bool (eI c)] ∧ B = R) := by
 obtain ⟨w, hw⟩ : ∃ w, (fun i => fR c (c.nl.getD i (0, 0))) = w := ⟨_, rfl⟩
 have hG : eI c = (decide (4 < c.nl.length) || gx w c.nl.length) := by rw [eI, hw]
 refine aD Tryz.func146 Tryz.ntmps146 rfl rfl ?_
 refine au 2 ?_
 refine ae rfl (bw rfl) ?_
 rintro _ _ ⟨b1, rfl, rfl⟩
 refine au 13 ?_
 refine ai rfl ?_ ?_
 ·intro c1
  refine au 8 ?_
  refine ah (.inl rfl) (.cons (ac rfl) (.cons (ac rfl) .nil)) ?_
  rw [hG, decide_eq_true (by omega), Bool.true_or]
  exact ⟨_, ⟨0, rfl, rfl⟩, inferInstance⟩
 ·intro c1
  refine au 7 ?_
  refine aa rfl (i7 rfl rfl) ?_
  refine ae rfl (aM pD rfl (oy W0 _ 266 [.pointer (some ⟨b1, 0, none⟩)] c.nl.length b1 _ w (hw ▸ AG W0 b1 c hs hgs) (by omega))) ?_
  rintro _ B_ ⟨r, rfl, hB_⟩
  obtain rfl := hB_.symm
  refine au 7 ?_
  refine ah (.inl rfl) (.cons (ac rfl) (.cons (ac rfl) .nil)) ?_
  rw [hG, decide_eq_false (by omega), Bool.false_or]
  exact ⟨_, ⟨r, rfl, rfl⟩, inferInstance⟩
def d9 (c : Cfg) : Nat → Int
  | 0 => (c.nl.length : Int)
  | i + 1 => d9 c i + ((c.gl.getD i (0, 0, 0)).2.1 + (c.gl.getD i (0, 0, 0)).2.2)
theorem rj {c : Cfg} (hb : ∀ g ∈ c.gl, 1 ≤ g.2.1 ∧ g.2.1 ≤ 8 ∧ 0 ≤ g.2.2 ∧ g.2.2 ≤ 8 - g.2.1) (hn : c.nl.length ≤ 4) : ∀ i, i ≤ c.gl.length → 0 ≤ d9 c i ∧ d9 c i ≤ 4 + 8 * i
 | 0, _ => by rw [d9]; omega
 | i + 1, hi => by
  obtain ⟨h1, h2⟩ := rj hb hn i (by omega)
  have := hb _ (List.getElem_mem (show i < c.gl.length by omega))
  rw [d9, show c.gl.getD i (0, 0, 0) = c.gl[i]'(by omega) by simp [List.getD, show i < c.gl.length by omega]]
  omega
theorem rk (W0 : World) (R : List HP) (c : Cfg) (hs : ∀ A, bT (bu W0 A) c.ga 3 dB c.gl) (hb : ∀ g ∈ c.gl, 1 ≤ g.2.1 ∧ g.2.1 ≤ 8 ∧ 0 ≤ g.2.2 ∧ g.2.2 ≤ 8 - g.2.1) (hn : c.nl.length ≤ 4) (hg : c.gl.length ≤ 4) :
  ao Tryz.prog W0 149 [.agg (bF c).toArray] R (fun v B => v = .int .i64 (d9 c c.gl.length) ∧ B = R) := by
 have hle := rj hb hn
 refine d5 Tryz.func149 Tryz.ntmps149 rfl rfl ?_
 refine al (az (ae rfl (bw rfl) ?_))
 rintro _ _ ⟨b1, rfl, rfl⟩
 refine aa rfl (ax rfl) (aw (ak (al (az ?_))))
 refine aa rfl (ap rfl cG rfl j8 rfl (by first | exact Nat.zero_add _ | rfl)) ?_
 refine aa rfl (am jM rfl (aH rfl)) ?_
 refine aa rfl (dU gk rfl) (aa rfl (ax rfl) (aw (ak (al (al (az ?_))))))
 refine aa rfl (ap rfl cG rfl fc rfl (by first | exact Nat.zero_add _ | rfl)) ?_
 refine aa rfl (am fA rfl (aH rfl)) ?_
 refine aa rfl (dU eC rfl) (aa rfl (ag rfl) (aw (ak (dt ?_))))
 refine ce (fun i : Nat => i ≤ c.gl.length) (fun i => [(3, .int .i64 (d9 c i)), (10, .slice c.ga c.gl.length c.gc), (11, .int .i64 (c.gl.length : Nat)), (12, .int .i64 (i : Nat))]) (fun _ => R) (fun i => c.gl.length - i) 0 ?_ ?_ ?_ ?_
 ·exact Nat.zero_le _
 ·repeat (first | exact aJ | refine aG rfl ?_)
 ·exact inferInstance
 ·intro i hi
  refine al (az (aa rfl (eO rfl rfl) (aw (ak (al ?_)))))
  refine ai rfl ?_ ?_
  ·intro c3
   refine cy (ak (al (dt (al ?_))))
   have hi1 : i < c.gl.length := by omega
   obtain ⟨g, o, hga, hc⟩ := (hs R).at_ hi1
   obtain ⟨x, hx⟩ : ∃ x, c.gl[i] = x := ⟨_, rfl⟩
   rw [hx] at hc
   have hbx := hb _ (List.getElem_mem hi1)
   rw [hx] at hbx
   have hst : d9 c (i + 1) = d9 c i + (x.2.1 + x.2.2) := by rw [d9, show c.gl.getD i (0, 0, 0) = x by simp [List.getD, hi1, hx]]
   have hl1 := hle i hi
   rw [hga]
   refine az ?_
   refine aa rfl (bM eC ei rfl rfl rfl hi1 (by first | exact Nat.zero_add _ | rfl)) ?_
   refine aa rfl (cj td ei rfl hc.weak rfl) ?_
   refine ae rfl (cd lR) ?_
   rintro _ _ ⟨bx, rfl, rfl⟩
   refine b0 (bS ei rfl rfl rfl rfl rfl) ?_
   rintro _ _ rfl
   refine aw (ak (az (aa rfl (ag rfl) ?_)))
   refine aa rfl (ap rfl dC rfl ar rfl (by first | exact Nat.zero_add _ | rfl)) ?_
   refine aa rfl (am aT rfl (aH rfl)) ?_
   refine aa rfl (ap rfl dC rfl ar rfl (by first | exact Nat.zero_add _ | rfl)) ?_
   refine aa rfl (am aT rfl (aH rfl)) ?_
   refine aa rfl (bj rfl rfl (aK (by omega))) ?_
   refine aa rfl (bj rfl rfl (by rw [aK (by omega)]; exact hst.symm : IntKind.wrap .i64 (d9 c i + (x.2.1 + x.2.2)) = d9 c (i + 1))) ?_
   refine aa rfl (ax rfl) (aw (fY (ak (az ?_))))
   refine aa rfl (bj rfl rfl (by first | exact aK (by omega) | rfl)) ?_
   refine aa rfl (ag rfl) (aw (ak ?_))
   refine bU (i + 1) ?_ ?_ ?_ ?_
   ·omega
   ·omega
   ·repeat (first | exact aJ | refine aG rfl ?_)
   ·exact inferInstance
  ·intro c3
   refine gJ (eV (eV (i3 (ak (al (az (aa rfl (ag rfl) (aa rfl (ax rfl) (aw (ak (bY (ah (.inl rfl) (.cons (ac rfl) .nil) ?_))))))))))))
   obtain rfl : i = c.gl.length := by omega
   exact ⟨_, ⟨rfl, rfl⟩, inferInstance⟩
section
variable {rd : Option Nat} {P : Program} {S : World → Prop} {W0 : World} {N : FSz} {Q : Exit → Act → World → Prop} {e : bq} {A B R R1 R2 : List HP} {ops : Array Oper} {rest : List Oper}
variable {op : Op} {ty t t' : TypeId} {pos : String} {af : Array Edge} {v u : Value} {d b off : Nat} {x y z : Operand} {l l' vs : List Value}
theorem oz {z : Array Value} {n : Nat} : (Builtin.zeroCells z n).toList.length = n * z.size := by simp [Builtin.zeroCells]
theorem AI {E sz n k c by_ : Nat} {info : TypeInfo} {zz : Value} {an : Option Addr} {olds : List Value} {kk : Int} {kq kn : IntKind} (hu : P.underlying t = some (.slice E)) (htn : P.underlying t' = some (.int kn))
  (hi : P.info? E = some info) (hz : info.zero = some zz) (hsz : info.size = sz) (hby : info.bytes = by_) (hz1 : zz.cells.size = sz) (hsz0 : 0 < sz)
  (hx : ev e x = some (.slice an n c)) (hy : ev e y = some (.int kq kk)) (hk : kk = (k : Int)) (hold : (an = none ∧ olds = []) ∨ ∃ bx ox, an = some ⟨bx, ox, none⟩ ∧ cp (bu W0 A) bx ox olds) (hol : olds.length = n * sz)
  (h0 : 0 < k) (hg : c < n + k) (h63 : n + k ≤ maxLen) (hbig : (n + k) * by_ ≤ 140737488355328) :
  cQ P W0 N e A (.call { callee := .builtin .append, args := #[x, y], argTypes := #[t, t'] }) (fun v B => ∃ a' c' zs, v = .slice a' (n + k) c' ∧ zs.length = k * sz ∧ B = osl E sz v (olds ++ zs) :: A) := jV fun a w dst ty pos af g hF hO => by
 subst hk
 subst hsz
 subst hby
 have hsmall : n + k ≤ 9223372036854775807 := by simp only [maxLen] at h63; omega
 have hfc : (Builtin.firstCells info.size n (.slice an n c)).run P w.drew = .ok olds.toArray w.drew := by
  rcases hold with ⟨rfl, rfl⟩ | ⟨bx, ox, rfl, hc⟩
  ·simp [Builtin.firstCells]
  ·exact run_firstCells_some (P := P) w.drew info.size n ⟨bx, ox, none⟩ n c olds hol (fun j u hj => by
    have := hc j u hj w hO
    simpa [f5] using this)
 have hbk : k * info.bytes ≤ 281474976710656 := by
  have := Nat.mul_le_mul_right info.bytes (show k ≤ n + k by omega); omega
 have hr := Go.Lib.run_append_grow_zeros (P := P) w t t' ty E info zz kq kn hu htn hi hz an n c olds hfc k h0 hsz0 hg (by omega) hbk (growslice_fits (by omega) hbig)
 have hge := grownCap_ge w (n + k) c E
 have hcm := grownCap_le_maxLen w (n + k) c E h63
 have hnew := (Own.drew hO (w.drawn + 1)).new (aj ((olds ++ (Builtin.zeroCells zz.cells k).toList) ++ (Builtin.zeroCells zz.cells (grownCap w (n + k) c E - (n + k))).toList) E)
 have ea : ((olds ++ (Builtin.zeroCells zz.cells k).toList) ++ (Builtin.zeroCells zz.cells (grownCap w (n + k) c E - (n + k))).toList).toArray = olds.toArray ++ Builtin.zeroCells zz.cells k ++ Builtin.zeroCells zz.cells (grownCap w (n + k) c E - (n + k)) := by apply Array.ext'; simp
 refine ⟨_, { ({ w with drawn := w.drawn + 1 } : World) with heap := w.heap.push (aj ((olds ++ (Builtin.zeroCells zz.cells k).toList) ++ (Builtin.zeroCells zz.cells (grownCap w (n + k) c E - (n + k))).toList) E) }, _, .inl ?_, ⟨some ⟨w.heap.size, 0, none⟩, grownCap w (n + k) c E, (Builtin.zeroCells zz.cells k).toList, rfl, by rw [oz, hz1], rfl⟩, ?_⟩
 ·simp only [execOp, resolve, invoke, builtin, Sem.run_bind, Sem.run_pure, Result.andThen_ok, List.map_toArray, List.map_cons, List.map_nil, hF.eval hx, hF.eval hy, hr]
  simp only [World.drew, World.alloc, aj, ea]
 ·refine hnew.ent ?_
  exact @eP _ A A E info.size w.heap.size (n + k) (grownCap w (n + k) c E) (olds ++ (Builtin.zeroCells zz.cells k).toList) _ _ hge hcm (by rw [List.length_append, hol, oz, hz1, Nat.add_mul]) (by
   rw [List.length_append, List.length_append, hol, oz, oz, hz1, ← Nat.add_mul, ← Nat.add_mul]; congr 1; omega) _
theorem AJ {f : FuncId} {xs : Array Operand} {ats : Array TypeId} (hx : ej e xs.toList = some vs) (hc : ∀ w, S w → (callFunc f vs.toArray).run P w = .ok (.value v) w) : bP P S N e (.call { callee := .value (.func f), args := xs, argTypes := ats }) v := fun a w dst ty pos af g hF hO => by
 rw [execOp_call_go]
 have he : (#[] ++ xs.map a.eval ++ #[] : Array Value) = vs.toArray := by
  have := hF.evals hx
  rw [← this]; apply Array.ext'; simp
 rw [he, hc w hO]
theorem AK {n c : Nat} {a : Option Addr} (hu : P.underlying t = some (.slice d)) (hx : ev e x = some (.slice a n c)) : bP P S N e (.call { callee := .builtin .cap, args := #[x], argTypes := #[t] }) (.int .i64 (c : Nat)) := fun act w _ _ _ _ _ hF _ => by
 simp [execOp, resolve, invoke, builtin, hF.eval hx, Builtin.cap_, dH hu, goInt]
theorem oA {p q s r : List Value} (h : q.length = r.length) : setR (p ++ q ++ s) p.length r = p ++ r ++ s := by
 rw [kT _ _ _ (by simp only [List.length_append]; omega), ← h, List.append_assoc p q s, List.take_left, ← List.drop_drop, List.drop_left, List.drop_left]
theorem rm {g o : Nat} {l1 l2 : List Value} (h : cp S g o (l1 ++ l2)) : cp S g o l1 := fun i v hi => h i v (by
 rw [List.getElem?_append_left (by
  rcases Nat.lt_or_ge i l1.length with q | q
  ·exact q
  ·rw [List.getElem?_eq_none q] at hi; cases hi)]
 exact hi)
theorem AL {g o : Nat} {l1 l2 : List Value} (h : cp S g o (l1 ++ l2)) : cp S g (o + l1.length) l2 := fun i v hi => by
 rw [Nat.add_assoc]
 exact h (l1.length + i) v (by rw [List.getElem?_append_right (by omega), Nat.add_sub_cancel_left]; exact hi)
theorem vl {l1 l2 l3 : List Value} {o : Nat} [h : Tk pt b A (aj l ty) R] (hl : l = l1 ++ l2 ++ l3) (ho : l1.length = o) : cp (bu W0 A) b o l2 := by
 subst ho
 have h0 : cp (bu W0 A) b 0 (l1 ++ l2) := rm (l2 := l3) (by rw [← hl]; exact dz (ty := ty) (R := R) (h := h))
 have := AL h0
 rwa [Nat.zero_add] at this
theorem AM {E sz : Nat} {tS tR ba ga na ca nb cb oa ob : Nat} {la lb : List Value} {ta tb : TypeId} (ht : P.underlying tS = some (.slice E)) (hz : ∀ w, (sizeOf E).run P w = .ok sz w) [h1 : Tk pt ba A (aj la ta) R1] [h2 : Tk pt ga R1 (aj lb tb) R2] (hla : oa ≤ la.length) (hlb : 0 < lb.length) {w : World} (hO : Own W0 w A) :
  (Extern.SlicesOverlaps.overlaps #[tS, tS] #[tR] #[.slice (some ⟨ba, oa, none⟩) na ca, .slice (some ⟨ga, ob, none⟩) nb cb]).run P w = .ok (.bool false) w := by
 have hO1 := hO.tk (r := pt) (b := ba)
 have ha := hO1.has.2
 have hO2 := (hO1.drop).tk (r := pt) (b := ga)
 have hb := hO2.has.2
 have hne : ba ≠ ga := by
  intro q; subst q
  have hO3 : Own W0 w (pt ba (aj la ta) :: pt ba (aj lb tb) :: R2) := hO1.perm (h2.perm.cons _)
  obtain ⟨ls, ⟨l1, l2, rfl, e1, l3, l4, rfl, e2, _⟩, hn, _⟩ := hO3.owns
  cases e1; cases e2
  simp at hn
 refine Go.Lib.run_overlaps_apart w tS tR E ht sz hz ⟨ba, oa, none⟩ ⟨ga, ob, none⟩ na ca nb cb hne ta tb la.length lb.length ?_ ?_ (by omega) ?_ ?_
 ·simp [World.shape?, ha]
 ·simp [World.shape?, hb]
 ·simp [World.frozen?, ha]
 ·simp [World.frozen?, ha]
end
class NOut (Q : Exit → Act → World → Prop) : Prop where
  no : ∀ a w, ¬ Q .outgrown a w
instance Jq {n : Act → World → Prop} {Q : Exit → Act → World → Prop} [h : NOut Q] : NOut (Exit.then n Q) := ⟨fun a w k => h.no a w k⟩
instance Jr {id : Nat} {Q : Exit → Act → World → Prop} [h : NOut Q] : NOut (Exit.inBlock id Q) := ⟨fun a w k => h.no a w k⟩
instance Js {Q : Exit → Act → World → Prop} [h : NOut Q] : NOut (Exit.noGoto Q) := ⟨fun a w k => h.no a w k⟩
instance Jt {P : Program} {W0 : World} {L : Nat} {Post : Value → List HP → Prop} : NOut (mg P W0 L Post) := ⟨fun a w k => k⟩
instance Ju : NOut (fun _ _ _ => False) := ⟨fun a w k => k⟩
instance Jv {P : Program} {W0 : World} {L : Nat} {Post : Value → List HP → Prop} : POk (mg P W0 L Post) := ⟨fun c a d v w k => k.elim⟩
instance Jw : POk (fun _ _ _ => False) := ⟨fun c a d v w k => k⟩
section
variable {rd : Option Nat} {P : Program} {W0 : World} {N : FSz} {Q : Exit → Act → World → Prop} {e : bq} {A : List HP} {ops : Array Oper} {S : World → Prop}
theorem oB (hp : jt rd ops.toList = true) (hq : NOut Q) : ∀ (fuel : Nat) (listed : Array Bool) (a : Act) (w : World), wpAnyH P .any ops Q S fuel listed a w → wpAnyIn (FW rd) 0 P .any ops Q fuel listed a w
 | 0, _, _, _, h => h
 | fuel + 1, listed, a, w, h => ⟨h.1, fun i hi => by
  have h2 := h.2 i hi
  unfold wpOp at h2
  unfold wpOpIn
  cases ho : ops[i]? with
  | none =>
   rw [ho] at h2
   exact oB hp hq fuel _ a w h2.2
  | some o =>
   rw [ho] at h2
   simp only at h2 ⊢
   split at h2
   ·rename_i hwant
    rw [if_pos hwant]
    rcases h2 with h2 | ⟨_, a', w', h3⟩
    ·have hsem : o.semAt (FW rd).round a.eval = execOp a.eval o := by
      cases rd with
      | none => rfl
      | some l =>
       refine Oper.semAt_eq _ _ _ (tE ?_)
       simp only [jt, Option.isNone_some, Bool.false_or, List.all_eq_true] at hp
       exact hp _ (by
        obtain ⟨hlt, rfl⟩ := Array.getElem?_eq_some_iff.1 ho
        simp)
     refine ⟨fun _ _ => trivial, ?_⟩
     rw [hsem]
     exact tD (fun a' w' h' => oB hp hq fuel _ a' w' h'.2) h2
    ·exact absurd h3 (hq.no a' w')
   ·rename_i hwant
    rw [if_neg hwant]
    exact ⟨fun _ _ => trivial, oB hp hq fuel _ _ w h2.2⟩⟩
theorem AN {id : Nat} (cs : List (Nat × Nat × List Value)) (n : Nat) (hm : P.follows .mixedOrders = true) (hn : Nat.beq ops.size n = true) [hq : NOut Q] (hS : ∀ w, Own W0 w A → SC cs w) (k : (∀ w, Own W0 w A → SC cs w) → aE W0 N (DR P ops Q cs n (Array.replicate n false)) e A) (hp : jt rd ops.toList = true := by rfl) : aE W0 N ((Code.region id ops true).wpR rd P Q) e A := by
 intro a w hF hO
 have : ops.size = n := Nat.eq_of_beq_eq_true hn
 subst this
 exact wpIn_region_any hm (oB hp hq _ _ _ _ (k hS a _ hF (hO.drew _)))
end
abbrev Rn := Int × Int × Int
def bC (x : Rn) : List Value := [.int .i64 x.1, .int .i64 x.2.1, .int .i64 x.2.2]
theorem iZ (x : Rn) : (bC x).length = 3 := rfl
theorem rn (x : Rn) : ek (bC x) = true := by simp [bC, ek, Value.oneCell']
theorem rp (l : List Rn) : ek (l.flatMap bC) = true := by
 induction l with
 | nil => rfl
 | cons x l ih =>
  rw [List.flatMap_cons, ek, List.all_append, Bool.and_eq_true]
  exact ⟨rn x, ih⟩
@[reducible] def ge (a : Option Addr) (k c : Nat) (n : Int) : Obj := aj [.slice a k c, .int .i64 n, .bool true] 499
def gy (b : Nat) (x : List Rn × Int) : HP := chk (fun C => ∃ a c, C = [pt b (ge a x.1.length c x.2), osl 504 3 (.slice a x.1.length c) (x.1.flatMap bC)])
section
variable {W0 : World} {N : FSz} {K : Act → World → Prop} {e : bq} {A B R R1 R2 : List HP} {b n c : Nat} {x : List Rn × Int}
theorem AO [hk : Tk gy b A x R] (h : ∀ a c, aE W0 N K e (pt b (ge a x.1.length c x.2) :: osl 504 3 (.slice a x.1.length c) (x.1.flatMap bC) :: R)) : aE W0 N K e A :=
 dP (r := gy) (b := b) (iU fun C hC => by obtain ⟨a, c, rfl⟩ := hC; exact h a c)
theorem jl {rs : List Rn} {k m : Nat} {nn : Int} {a : Option Addr} {ys : List Value} [h1 : Tk pt b A (ge a k m nn) R1] [h2 : Tk (osl 504 3) (.slice a k m) R1 ys R2] (hk : k = rs.length) (hy : ys = rs.flatMap bC) [q : Ent R2 B] : Ent A (gy b (rs, nn) :: B) := by
 subst hk; subst hy
 exact (Ent.ofPerm (h1.perm.trans (h2.perm.cons _))).trans ((eF (R := R2) (C := [_, _]) ⟨a, m, rfl⟩).trans (Ent.cons q))
theorem vm {α : Type} {E sz g c i : Nat} {f : α → List Value} {xs : List α} {x : α} {ys : List Value} [h : Tk (osl E sz) (.slice (some ⟨g, 0, none⟩) n c) A ys R] (hy : ys = xs.flatMap f) (hf : ∀ x, (f x).length = sz) (hz : 0 < sz) (hx : xs[i]? = some x) : cp (bu W0 A) g (i * sz) (f x) := by
 obtain ⟨b, off, e1, hc⟩ := zY (S := bu W0 A) (a := some ⟨g, 0, none⟩) (.inr ⟨g, rfl⟩) (uM (E := E) (sz := sz) (n := n) (c := c) (ys := ys)) hf hy hz i x hx
 cases e1
 rw [Nat.zero_add] at hc; exact hc
end
theorem AP (W0 : World) (b1 bt L : Nat) (rs : List Rn) (n : Int) (a : Option Addr) (c : Nat) (hl : rs.length ≤ 1000) (C : Nat → List HP) (I : Nat → Prop) (h0 : I 0) (Stop : List HP → Prop)
  (hr : ∀ i R, i < rs.length → I i → kV Tryz.prog W0 L [.int .i64 (i : Nat), .agg (bC (rs.getD i (0, 0, 0))).toArray] (C i ++ R) (fun v B => ∃ b B', v = .bool b ∧ B = B' ++ R ∧ ((b = true ∧ I (i + 1) ∧ B' = C (i + 1)) ∨ (b = false ∧ Stop B')))) :
  ao Tryz.prog W0 371 [.func (.yield L) #[] #[], .pointer (some ⟨b1, 0, none⟩)] (pt b1 (aj [.pointer (some ⟨bt, 0, none⟩)] 405) :: pt bt (ge a rs.length c n) :: osl 504 3 (.slice a rs.length c) (rs.flatMap bC) :: C 0)
   (fun v B => v = .tuple #[] ∧ ∃ B', B = pt bt (ge a rs.length c n) :: osl 504 3 (.slice a rs.length c) (rs.flatMap bC) :: B' ∧ ((I rs.length ∧ B' = C rs.length) ∨ Stop B')) := by
 refine d5 Tryz.func371 Tryz.ntmps371 rfl rfl ?_
 refine al (az (aa rfl (am Tryz.isAgg405 rfl (aH rfl)) ?_))
 refine aa rfl (aU rfl) ?_
 refine aa rfl (ap rfl sX rfl pp rfl (by first | exact Nat.zero_add _ | rfl)) ?_
 refine aa rfl (am xA rfl (aH rfl)) ?_
 refine aa rfl (dU eD rfl) (aa rfl (ag rfl) (aw (ak (dt ?_))))
 refine ce (fun i : Nat => i ≤ rs.length ∧ I i) (fun i => [(0, .func (.yield L) #[] #[]), (8, .slice a rs.length c), (9, .int .i64 (rs.length : Nat)), (10, .int .i64 (i : Nat))]) (fun i => pt bt (ge a rs.length c n) :: osl 504 3 (.slice a rs.length c) (rs.flatMap bC) :: C i) (fun i => rs.length - i) 0 ?_ ?_ ?_ ?_
 ·exact ⟨Nat.zero_le _, h0⟩
 ·repeat (first | exact aJ | refine aG rfl ?_)
 ·exact inferInstance
 ·intro i ⟨hi, hI⟩
  refine al (az (aa rfl (eO rfl rfl) (aw (ak (al ?_)))))
  refine ai rfl ?_ ?_
  ·intro c1
   refine cy (ak (al (dt (al ?_))))
   have hi1 : i < rs.length := by omega
   have hgi : rs[i]? = some (rs.getD i (0, 0, 0)) := by simp [List.getD, hi1]
   refine qL (E := 504) (sz := 3) (a := a) (c := c) (n := rs.length) (ys := rs.flatMap bC) (fun hf => ?_)
   obtain ⟨g, rfl⟩ := qW hf (by rw [← List.length_pos_iff, cX iZ]; omega)
   refine az (aa rfl (ag rfl) ?_)
   refine aa rfl (bM eD f2 rfl rfl rfl hi1 (by first | exact Nat.zero_add _ | rfl)) ?_
   refine aa rfl (cj y1 f2 rfl (vm (f := bC) (E := 504) (sz := 3) (n := rs.length) (c := c) rfl iZ (by decide) hgi) rfl) ?_
   refine ae rfl (cd tf) ?_
   rintro _ _ ⟨b1, rfl, rfl⟩
   refine aa rfl (ax rfl) (b0 (bS f2 rfl rfl rfl rfl rfl) ?_)
   rintro _ _ rfl
   refine aw (ak (al (az (aa rfl (ag rfl) (aa rfl (ag rfl) (aa rfl (iS y1 f2 rfl rfl) ?_))))))
   refine z9 rfl rfl rfl (zV (List.perm_append_comm (l₁ := [_, _, _])) (hr i [_, _, _] hi1 hI)) ?_
   rintro _ B_ ⟨b, B', rfl, hB_, hb⟩
   obtain rfl := hB_.symm
   refine pO List.perm_append_comm ?_
   simp only [List.cons_append, List.nil_append]
   refine aa rfl (fM rfl) (aw (ak ?_))
   refine ai rfl ?_ ?_
   ·intro c3
    have hs : Stop B' := by
     rcases hb with h | h
     ·exact absurd c3 (by rw [h.1]; decide)
     ·exact h.2
    refine bY (dO (cn (cn (dO (ah (.inl rfl) .nil ?_)))))
    exact ⟨_, ⟨rfl, _, rfl, .inr hs⟩, inferInstance⟩
   ·intro c3
    have hs : I (i + 1) ∧ B' = C (i + 1) := by
     rcases hb with h | h
     ·exact h.2
     ·exact absurd (by rw [h.1]; decide) c3
    obtain ⟨hI', rfl⟩ := hs
    refine cy (fY (ak (az ?_)))
    refine aa rfl (bj rfl rfl (by first | exact aK (by omega) | rfl)) ?_
    refine aa rfl (ag rfl) (aw (ak ?_))
    refine bU (i + 1) ?_ ?_ ?_ ?_
    ·exact ⟨by omega, hI'⟩
    ·omega
    ·repeat (first | exact aJ | refine aG rfl ?_)
    ·exact inferInstance
  ·intro c1
   refine gJ (eV (eV (i3 (ah (.inr rfl) .nil ?_))))
   obtain rfl : i = rs.length := by omega
   exact ⟨_, ⟨rfl, _, rfl, .inl ⟨hI, rfl⟩⟩, inferInstance⟩
theorem AQ (W0 : World) (R : List HP) (bt : Nat) :
  ao Tryz.prog W0 333 [.pointer (some ⟨bt, 0, none⟩)] R (fun v B => ∃ b1, v = .func (.func 371) #[] #[.pointer (some ⟨b1, 0, none⟩)] ∧ B = pt b1 (aj [.pointer (some ⟨bt, 0, none⟩)] 405) :: R) := by
 refine aD Tryz.func333 Tryz.ntmps333 rfl rfl ?_
 refine au 2 ?_
 refine ae rfl (jv rfl rfl) ?_
 rintro _ _ ⟨b1, rfl, rfl⟩
 refine au 5 ?_
 refine aa rfl (i7 rfl rfl) ?_
 refine au 4 ?_
 refine ah (.inl rfl) (.cons (ac rfl) .nil) ?_
 exact ⟨_, ⟨b1, rfl, rfl⟩, inferInstance⟩
theorem AR {W0 : World} {A : List HP} {e : bq} {n' L D b1 bt c : Nat} {n : Int} {a : Option Addr} {ps' : Array Tmp} {asg body : Code} (pe : Code) {Go Stop : List HP → Prop} (rs : List Rn) (hl : rs.length ≤ 1000) (Ct : Nat → List HP) (I : Nat → Prop) (St : List HP → Prop)
  (hp : A.Perm (pt b1 (aj [.pointer (some ⟨bt, 0, none⟩)] 405) :: pt bt (ge a rs.length c n) :: osl 504 3 (.slice a rs.length c) (rs.flatMap bC) :: Ct 0)) (h0 : I 0)
  (hgo : I rs.length → Go (pt bt (ge a rs.length c n) :: osl 504 3 (.slice a rs.length c) (rs.flatMap bC) :: Ct rs.length))
  (hst : ∀ B', St B' → Stop (pt bt (ge a rs.length c n) :: osl 504 3 (.slice a rs.length c) (rs.flatMap bC) :: B'))
  (hrd : ∀ i R', i < rs.length → I i → kV Tryz.prog W0 L [.int .i64 (i : Nat), .agg (bC (rs.getD i (0, 0, 0))).toArray] (dQ L ⟨e, n', ps', asg, body, .ready, none, D⟩ :: pt D (.deferred (some [])) :: (Ct i ++ R'))
   (fun v B => (v = .bool true ∧ I (i + 1) ∧ B = dQ L ⟨e, n', ps', asg, body, .ready, none, D⟩ :: pt D (.deferred (some [])) :: (Ct (i + 1) ++ R')) ∨
    (v = .bool false ∧ ∃ B', St B' ∧ B = dQ L ⟨e, n', ps', asg, body, .done, some pe, D⟩ :: pt D (.deferred (some [])) :: (B' ++ R')))) :
  ao Tryz.prog W0 371 (.func (.yield L) #[] #[] :: [.pointer (some ⟨b1, 0, none⟩)]) (dQ L ⟨e, n', ps', asg, body, .ready, none, D⟩ :: pt D (.deferred (some [])) :: A)
   (fun _ B => (∃ C, B = dQ L ⟨e, n', ps', asg, body, .ready, none, D⟩ :: pt D (.deferred (some [])) :: C ∧ Go C) ∨ (∃ C, B = dQ L ⟨e, n', ps', asg, body, .done, some pe, D⟩ :: pt D (.deferred (some [])) :: C ∧ Stop C)) := by
 have hperm : (dQ L ⟨e, n', ps', asg, body, .ready, none, D⟩ :: pt D (.deferred (some [])) :: A).Perm (pt b1 (aj [.pointer (some ⟨bt, 0, none⟩)] 405) :: pt bt (ge a rs.length c n) :: osl 504 3 (.slice a rs.length c) (rs.flatMap bC) :: (dQ L ⟨e, n', ps', asg, body, .ready, none, D⟩ :: pt D (.deferred (some [])) :: Ct 0)) :=
  ((hp.cons _).cons _).trans (List.perm_append_comm_assoc [_, _] [_, _, _] (Ct 0))
 refine me hperm (iV (AP W0 b1 bt L rs n a c hl (fun i => dQ L ⟨e, n', ps', asg, body, .ready, none, D⟩ :: pt D (.deferred (some [])) :: Ct i) I h0
  (fun B => ∃ B', St B' ∧ B = dQ L ⟨e, n', ps', asg, body, .done, some pe, D⟩ :: pt D (.deferred (some [])) :: B') fun i R hat hI w hO => ?_) ?_)
 ·obtain ⟨f, tmps, as_, bd, hy, hR⟩ := hrd i R hat hI w hO
  refine ⟨f, tmps, as_, bd, hy, RoundIn.mono hR ?_⟩
  rintro _ w' ⟨v, B, rfl, hB, hO'⟩
  rcases hB with ⟨rfl, hI', rfl⟩ | ⟨rfl, B', hS, rfl⟩
  ·exact ⟨_, _, rfl, ⟨true, _, rfl, rfl, .inl ⟨rfl, hI', rfl⟩⟩, hO'⟩
  ·exact ⟨_, _, rfl, ⟨false, dQ L ⟨e, n', ps', asg, body, .done, some pe, D⟩ :: pt D (.deferred (some [])) :: B', rfl, rfl, .inr ⟨rfl, B', hS, rfl⟩⟩, hO'⟩
 ·rintro v B ⟨_, B0, rfl, ⟨hI, rfl⟩ | ⟨B', hS, rfl⟩⟩
  ·exact ⟨_, .inl ⟨_, rfl, hgo hI⟩, Ent.ofPerm (List.perm_append_comm_assoc [_, _] [_, _] (Ct rs.length))⟩
  ·exact ⟨_, .inr ⟨_, rfl, hst B' hS⟩, Ent.ofPerm (List.perm_append_comm_assoc [_, _] [_, _] B')⟩
theorem AS (W0 : World) (R : List HP) (x : Rn) (h : -1000 ≤ x.1 + x.2.1 ∧ x.1 + x.2.1 ≤ 1000) : ao Tryz.prog W0 334 [.agg (bC x).toArray] R (fun v B => v = .int .i64 (x.1 + x.2.1) ∧ B = R) := by
 refine d5 Tryz.func334 Tryz.ntmps334 rfl rfl ?_
 refine al (az (ae rfl (bw rfl) ?_))
 rintro _ _ ⟨b1, rfl, rfl⟩
 refine aa rfl (ax rfl) (aw (ak (al (az ?_))))
 refine aa rfl (ap rfl ti rfl ar rfl (by first | exact Nat.zero_add _ | rfl)) ?_
 refine aa rfl (am aT rfl (aH rfl)) ?_
 refine aa rfl (ap rfl ti rfl ar rfl (by first | exact Nat.zero_add _ | rfl)) ?_
 refine aa rfl (am aT rfl (aH rfl)) ?_
 refine aa rfl (bj rfl rfl (aK (by omega))) ?_
 refine aa rfl (ax rfl) (aw (ak (bY (ah (.inl rfl) (.cons (ac rfl) .nil) ?_))))
 exact ⟨_, ⟨rfl, rfl⟩, inferInstance⟩
def fu : List Rn → Int → Nat
  | [], _ => 0
  | x :: l, f => if x.1 + x.2.1 ≤ f then fu l f + 1 else 0
def i8 (rs : List Rn) (f n : Int) : Bool := match rs[fu rs f]? with
  | some x => decide (x.1 < f + n)
  | none => false
theorem rq : ∀ (rs : List Rn) (f : Int) (i : Nat), i ≤ rs.length → (∀ j (hj : j < rs.length), j < i → rs[j].1 + rs[j].2.1 ≤ f) → (∀ h : i < rs.length, ¬ rs[i].1 + rs[i].2.1 ≤ f) → fu rs f = i
 | [], f, i, h, _, _ => by simp at h; rw [fu, h]
 | x :: l, f, 0, _, _, h2 => by
  have := h2 (by simp)
  rw [fu, if_neg (by simpa using this)]
 | x :: l, f, i + 1, h, h1, h2 => by
  have h0 := h1 0 (by simp) (by omega)
  rw [fu, if_pos (by simpa using h0), rq l f i (by simpa using h) (fun j hj hji => by
   have := h1 (j + 1) (by simpa using hj) (by omega)
   simpa using this) (fun hi => by
   have := h2 (by simpa using hi)
   simpa using this)]
theorem rr : ∀ (rs : List Rn) (f : Int), fu rs f ≤ rs.length
 | [], f => Nat.le_refl _
 | x :: l, f => by
  have := rr l f
  rw [fu]; split
  ·simpa using this
  ·exact Nat.zero_le _
def iG (rs : List Rn) : Prop := ∀ x ∈ rs, 0 ≤ x.1 ∧ 1 ≤ x.2.1 ∧ x.1 + x.2.1 ≤ 64 ∧ 0 ≤ x.2.2 ∧ x.2.2 < 64
theorem iG.get {rs : List Rn} (h : iG rs) {i : Nat} (hi : i < rs.length) : 0 ≤ (rs.getD i (0, 0, 0)).1 ∧ 1 ≤ (rs.getD i (0, 0, 0)).2.1 ∧ (rs.getD i (0, 0, 0)).1 + (rs.getD i (0, 0, 0)).2.1 ≤ 64 ∧ 0 ≤ (rs.getD i (0, 0, 0)).2.2 ∧ (rs.getD i (0, 0, 0)).2.2 < 64 := by
 rw [show rs.getD i (0, 0, 0) = rs[i] by simp [List.getD, hi]]; exact h _ (List.getElem_mem hi)
theorem AT (W0 : World) (R : List HP) (b k c : Nat) (a : Option Addr) (n : Int) : ao Tryz.prog W0 332 [.pointer (some ⟨b, 0, none⟩)] (pt b (ge a k c n) :: R) (fun v B => v = .bool false ∧ B = pt b (ge a k c n) :: R) := by
 refine aD Tryz.func332 Tryz.ntmps332 rfl rfl ?_
 refine au 10 ?_
 refine aZ rfl rfl rfl ?_ ?_
 ·intro g1_3
  cases g1_3
 ·intro g1_3
  refine au 14 ?_
  refine ah (.inl rfl) (.cons (ac rfl) .nil) ?_
  exact ⟨_, ⟨rfl, rfl⟩, inferInstance⟩
theorem vn (W0 : World) (R : List HP) (n : Int) (h : 0 ≤ n ∧ n ≤ 64) : ao Tryz.prog W0 260 [.int .i64 n] R (fun v B => ∃ b, v = .tuple #[.pointer (some ⟨b, 0, none⟩), .int .i64 0] ∧ B = gy b ([], n) :: R) := by
 refine aD Tryz.func260 Tryz.ntmps260 rfl rfl ?_
 refine au 12 ?_
 refine aZ rfl rfl rfl ?_ ?_
 ·intro g1_3
  omega
 ·intro g1_3
  refine au 6 ?_
  refine ai rfl ?_ ?_
  ·intro c1
   omega
  ·intro c1
   refine au 5 ?_
   refine aa rfl (bI sX Tryz.zeroValue499 (aA pp (aA ar (aA cu bH))) (aS rfl ar rfl rfl (Nat.le_of_ble_eq_true rfl) SetL.eq (aS rfl cu rfl rfl (Nat.le_of_ble_eq_true rfl) SetL.eq bG))) ?_
   refine ae rfl (bw rfl) ?_
   rintro _ _ ⟨b1, rfl, rfl⟩
   refine au 5 ?_
   refine ah (.inl rfl) (.cons (ac rfl) (.cons (ac rfl) .nil)) ?_
   refine ⟨_, ⟨b1, rfl, rfl⟩, ?_⟩
   exact (Ent.cons (fj (E := 504) (sz := 3) (B := R))).trans (jl (rs := []) rfl rfl)
theorem AU (W0 : World) (R : List HP) (bt c : Nat) (rs : List Rn) (n : Int) (a : Option Addr) (hok : iG rs) (hl : rs.length ≤ 1000) (f k : Int) (hf : 0 ≤ f ∧ f ≤ 64 ∧ 1 ≤ k ∧ k ≤ 64) :
  ao Tryz.prog W0 335 [.pointer (some ⟨bt, 0, none⟩), .int .i64 f, .int .i64 k] (pt bt (ge a rs.length c n) :: osl 504 3 (.slice a rs.length c) (rs.flatMap bC) :: R)
   (fun v B => v = .tuple #[.int .i64 (fu rs f : Nat), .bool (i8 rs f k)] ∧ B = pt bt (ge a rs.length c n) :: osl 504 3 (.slice a rs.length c) (rs.flatMap bC) :: R) := by
 refine d5 Tryz.func335 Tryz.ntmps335 rfl rfl ?_
 refine al (az (ae rfl (jv rfl rfl) ?_))
 rintro _ _ ⟨bf, rfl, rfl⟩
 refine ae rfl (jv rfl rfl) ?_
 rintro _ _ ⟨bk, rfl, rfl⟩
 refine aa rfl (ax rfl) (aa rfl (ax rfl) (aw (ak (uU (al (az (aa rfl (ag rfl) (aa rfl (aU rfl) ?_))))))))
 refine aa rfl (ap rfl sX rfl pp rfl (by first | exact Nat.zero_add _ | rfl)) ?_
 refine aa rfl (am xA rfl (aH rfl)) ?_
 refine aa rfl (dU eD rfl) (ae rfl (nF lP rfl) ?_)
 rintro _ _ ⟨ba, rfl, rfl⟩
 refine ae rfl (nF Tryz.zeroValue4 rfl) ?_
 rintro _ _ ⟨bh, rfl, rfl⟩
 refine b0 (bN ar rfl rfl rfl (Nat.le_of_ble_eq_true rfl) SetL.eq) ?_
 rintro _ _ rfl
 refine b0 (bN cu rfl rfl rfl (Nat.le_of_ble_eq_true rfl) SetL.eq) ?_
 rintro _ _ rfl
 refine aw (ak (al (tG (ak (al (al (az (aa rfl (ag rfl) (ae rfl (aF Tryz.call333 rfl (AQ W0 _ bt)) ?_)))))))))
 rintro _ B_ ⟨b1, rfl, hB_⟩
 obtain rfl := hB_.symm
 refine aw (ak (dt ?_))
 refine A4 0 (fun C => (∀ j, j < rs.length → (rs.getD j (0, 0, 0)).1 + (rs.getD j (0, 0, 0)).2.1 ≤ f) ∧ C = pt bt (ge a rs.length c n) :: osl 504 3 (.slice a rs.length c) (rs.flatMap bC) :: pt bh (aj [.bool false] 4) :: pt ba (aj [.int .i64 (rs.length : Nat)] 3) :: pt bk (aj [.int .i64 k] 3) :: pt bf (aj [.int .i64 f] 3) :: R) (fun C => ∃ i, i < rs.length ∧ (∀ j, j < i → (rs.getD j (0, 0, 0)).1 + (rs.getD j (0, 0, 0)).2.1 ≤ f) ∧ (¬ (rs.getD i (0, 0, 0)).1 + (rs.getD i (0, 0, 0)).2.1 ≤ f) ∧ C = pt bt (ge a rs.length c n) :: osl 504 3 (.slice a rs.length c) (rs.flatMap bC) :: pt bh (aj [.bool (decide ((rs.getD i (0, 0, 0)).1 < f + k))] 4) :: pt ba (aj [.int .i64 (i : Nat)] 3) :: pt bk (aj [.int .i64 k] 3) :: pt bf (aj [.int .i64 f] 3) :: R) rfl Tryz.call371 ?_ ?_ ?_
 ·intro L D
  refine AR (.exit 0) rs hl (fun _ => pt bh (aj [.bool false] 4) :: pt ba (aj [.int .i64 (rs.length : Nat)] 3) :: pt bk (aj [.int .i64 k] 3) :: pt bf (aj [.int .i64 f] 3) :: R) (fun i => ∀ j, j < i → (rs.getD j (0, 0, 0)).1 + (rs.getD j (0, 0, 0)).2.1 ≤ f) (fun B => ∃ i, i < rs.length ∧ (∀ j, j < i → (rs.getD j (0, 0, 0)).1 + (rs.getD j (0, 0, 0)).2.1 ≤ f) ∧ (¬ (rs.getD i (0, 0, 0)).1 + (rs.getD i (0, 0, 0)).2.1 ≤ f) ∧ B = pt bh (aj [.bool (decide ((rs.getD i (0, 0, 0)).1 < f + k))] 4) :: pt ba (aj [.int .i64 (i : Nat)] 3) :: pt bk (aj [.int .i64 k] 3) :: pt bf (aj [.int .i64 f] 3) :: R) ((uG (r1 := pt) (b1 := b1) (r2 := pt) (b2 := bt) (r3 := osl 504 3) (b3 := .slice a rs.length c)).trans (List.Perm.refl _)) (fun j hj => absurd hj (Nat.not_lt_zero j)) (fun h => ⟨h, rfl⟩) (fun B' h => by obtain ⟨i, h1, h2, h3, rfl⟩ := h; exact ⟨i, h1, h2, h3, rfl⟩) ?_
  intro i R' hi hI
  have hx := hok.get hi
  obtain ⟨x, hxe⟩ : ∃ x, rs.getD i (0, 0, 0) = x := ⟨_, rfl⟩
  rw [hxe] at hx ⊢
  simp only [List.cons_append, List.nil_append]
  refine zc rfl rfl ?_
  refine al (az (aa rfl (ax rfl) (aw (ak (az (ae rfl (cd tf) ?_))))))
  rintro _ _ ⟨bd, rfl, rfl⟩
  refine b0 (bS f2 rfl rfl rfl rfl rfl) ?_
  rintro _ _ rfl
  refine aw (za rfl ?_)
  refine dt (al (dt (al ?_)))
  refine AN [(bd, 0, _), (bf, 0, _)] 5 bQ rfl (aC (aC aB)) (fun hS => ?_)
  refine ab 0 rfl rfl rfl hS (cj y1 f2 rfl (by first | exact cT (k := 0) rfl | exact cT (k := 1) rfl) rfl) ?_
  refine ab 2 rfl rfl rfl hS (am aT rfl (by first | exact av (k := 0) rfl rfl | exact av (k := 1) rfl rfl)) ?_
  refine aW 1 (by kernel_rfl) rfl rfl (aF Tryz.call334 rfl (AS W0 _ x (by omega))) rfl ?_; clear hS
  rintro _ B_ ⟨rfl, hB_⟩
  obtain rfl := hB_.symm
  refine ⟨(aC (aC aB)), fun hS => ?_⟩
  refine ab 3 rfl rfl rfl hS (tO rfl rfl) ?_
  refine ab 4 rfl rfl rfl hS (ax rfl) ?_
  refine bz (by kernel_rfl) ?_; clear hS
  refine ak ?_
  refine ai rfl ?_ ?_
  ·intro c5
   refine gJ (lY rfl (eV (i3 (zb ?_))))
   have hI' : ∀ j, j < i + 1 → (rs.getD j (0, 0, 0)).1 + (rs.getD j (0, 0, 0)).2.1 ≤ f := fun j hj => by
    rcases Nat.lt_or_ge j i with q | q
    ·exact hI j q
    ·obtain rfl : j = i := by omega
     rw [hxe]; exact c5
   exact ⟨_, .inl ⟨rfl, hI', rfl⟩, inferInstance⟩
  ·intro c5
   refine al (az ?_)
   refine aa rfl (ap rfl ti rfl ar rfl (by first | exact Nat.zero_add _ | rfl)) ?_
   refine aa rfl (am aT rfl (aH rfl)) ?_
   refine aa rfl (am aT rfl (aH rfl)) ?_
   refine aa rfl (am aT rfl (aH rfl)) ?_
   refine aa rfl (bj rfl rfl (aK (by omega))) ?_
   refine aa rfl (eO rfl rfl) (aa rfl (ax rfl) (aw (ak ?_)))
   refine ai rfl ?_ ?_
   ·intro c6
    refine az (b0 (bN cu rfl rfl rfl (Nat.le_of_ble_eq_true rfl) SetL.eq) ?_)
    rintro _ _ rfl
    refine aw (fY (ak (al (az (aa rfl (ag rfl) (b0 (bN ar rfl rfl rfl (Nat.le_of_ble_eq_true rfl) SetL.eq) ?_))))))
    rintro _ _ rfl
    refine aw (ak (gJ (lY rfl (uV ?_))))
    refine ⟨_, .inr ⟨rfl, _, ⟨i, hi, hI, by rw [hxe]; exact c5, rfl⟩, rfl⟩, ?_⟩
    simp only [List.cons_append]
    rw [hxe]
    first
     | (rw [decide_eq_true c6]; exact inferInstance)
     | (rw [decide_eq_false c6]; exact inferInstance)
   ·intro c6
    refine cy (fY (ak (al (az (aa rfl (ag rfl) (b0 (bN ar rfl rfl rfl (Nat.le_of_ble_eq_true rfl) SetL.eq) ?_))))))
    rintro _ _ rfl
    refine aw (ak (gJ (lY rfl (uV ?_))))
    refine ⟨_, .inr ⟨rfl, _, ⟨i, hi, hI, by rw [hxe]; exact c5, rfl⟩, rfl⟩, ?_⟩
    simp only [List.cons_append]
    rw [hxe]
    first
     | (rw [decide_eq_true c6]; exact inferInstance)
     | (rw [decide_eq_false c6]; exact inferInstance)
 ·intro D C hC
  obtain ⟨hall, rfl⟩ := hC
  have hA : fu rs f = rs.length := rq rs f rs.length (Nat.le_refl _) (fun j hj _ => by have := hall j hj; rwa [show rs.getD j (0, 0, 0) = rs[j] by simp [List.getD, hj]] at this) (fun h => absurd h (Nat.lt_irrefl _))
  have hH : i8 rs f k = false := by rw [i8, hA, List.getElem?_eq_none (Nat.le_refl _)]
  refine fY (ak (al ?_))
  refine bR [(ba, 0, _), (bh, 0, _)] 4 bQ rfl (aC (aC aB)) (fun hS => ?_)
  refine ab 0 rfl rfl rfl hS (am aT rfl (by first | exact av (k := 0) rfl rfl | exact av (k := 1) rfl rfl)) ?_
  refine ab 1 rfl rfl rfl hS (am j6 rfl (by first | exact av (k := 0) rfl rfl | exact av (k := 1) rfl rfl)) ?_
  refine ab 2 rfl rfl rfl hS (ax rfl) ?_
  refine ab 3 rfl rfl rfl hS (ax rfl) ?_
  refine bz (by kernel_rfl) ?_; clear hS
  refine ak (bY (kl (u6 (.inl rfl) (.cons (ac rfl) (.cons (ac rfl) .nil)) ?_)))
  rw [hA, hH]
  exact ⟨_, ⟨rfl, rfl⟩, inferInstance⟩
 ·intro D C hC
  obtain ⟨i, hi, h1, h2, rfl⟩ := hC
  have hgi : rs.getD i (0, 0, 0) = rs[i] := by simp [List.getD, hi]
  have hA : fu rs f = i := rq rs f i (by omega) (fun j hj hji => by have := h1 j hji; rwa [show rs.getD j (0, 0, 0) = rs[j] by simp [List.getD, hj]] at this) (fun h => by rw [← hgi]; exact h2)
  have hH : i8 rs f k = decide ((rs.getD i (0, 0, 0)).1 < f + k) := by rw [i8, hA, List.getElem?_eq_getElem hi, hgi]
  refine i3 (ak (al ?_))
  refine bR [(ba, 0, _), (bh, 0, _)] 4 bQ rfl (aC (aC aB)) (fun hS => ?_)
  refine ab 0 rfl rfl rfl hS (am aT rfl (by first | exact av (k := 0) rfl rfl | exact av (k := 1) rfl rfl)) ?_
  refine ab 1 rfl rfl rfl hS (am j6 rfl (by first | exact av (k := 0) rfl rfl | exact av (k := 1) rfl rfl)) ?_
  refine ab 2 rfl rfl rfl hS (ax rfl) ?_
  refine ab 3 rfl rfl rfl hS (ax rfl) ?_
  refine bz (by kernel_rfl) ?_; clear hS
  refine ak (bY (kl (u6 (.inl rfl) (.cons (ac rfl) (.cons (ac rfl) .nil)) ?_)))
  rw [hA, hH]
  exact ⟨_, ⟨rfl, rfl⟩, inferInstance⟩
theorem AV (W0 : World) (R : List HP) (l : List Rn) (a : Option Addr) (n c : Nat) (hl : l.length = n) (hN : n ≤ 1000) (hs : bT (bu W0 R) a 3 bC l) :
  ao Tryz.prog W0 337 [.slice a n c] R
   (fun v B => ∃ a' c', v = .slice a' n c' ∧ B = osl 504 3 (.slice a' n c') (l.flatMap bC) :: R) := by
 subst hl
 refine aD Tryz.func337 Tryz.ntmps337 rfl rfl ?_
 refine au 9 ?_
 refine aa rfl (qi eD rfl rfl) (au 2 ?_)
 refine ai rfl ?_ ?_
 ·intro c1
  refine au 7 ?_
  refine ah (.inl rfl) (.cons (ac rfl) .nil) ?_
  have h0 : l = [] := by
   rcases l with _ | ⟨x, l⟩
   ·rfl
   ·obtain ⟨b, o, h, _⟩ := hs 0 x rfl
    rw [c1] at h; cases h
  subst h0
  exact ⟨_, ⟨none, 0, rfl, rfl⟩, fj⟩
 ·intro c1
  have hsrc := hs.src (fun _ => rfl) (fun _ => trivial)
  refine au 4 ?_
  refine ae rfl (mh eD f2 rfl) ?_
  rintro _ _ ⟨b1, rfl, rfl⟩
  refine aa rfl (ag rfl) ?_
  refine ae rfl (uX (sz := 3) (by_ := 24) (info := Tryz.t504) eD (by kernel_rfl) rfl rfl rfl rfl (by decide) rfl rfl (news := l.flatMap bC) (by
 rcases hsrc with h | ⟨bs, os, h1, h2⟩
 ·left; rw [h]; rfl
 ·right; exact ⟨bs, os, h1, h2.weak⟩) (by rw [cX iZ]) (rp l) (by simp only [maxLen]; omega) (by omega)) ?_
  rintro _ _ ⟨a1, c1, rfl, rfl⟩
  refine au 4 ?_
  refine ah (.inl rfl) (.cons (ac rfl) .nil) ?_
  rw [Nat.zero_add, List.nil_append]
  exact ⟨_, ⟨a1, c1, rfl, rfl⟩, inferInstance⟩
def fv (rs : List Rn) (i : Nat) (x : Rn) : List Rn := rs.take i ++ x :: rs.drop i
theorem ru (rs : List Rn) (i : Nat) (x : Rn) : (fv rs i x).flatMap bC = (rs.take i).flatMap bC ++ bC x ++ (rs.drop i).flatMap bC := by
 rw [fv, List.flatMap_append, List.flatMap_cons, List.append_assoc]
theorem oC {rs : List Rn} {i : Nat} (x : Rn) (hi : i ≤ rs.length) : (fv rs i x).length = rs.length + 1 := by
 rw [fv, List.length_append, List.length_cons, List.length_take, List.length_drop]; omega
theorem oD (rs : List Rn) (i : Nat) : rs.flatMap bC = (rs.take i).flatMap bC ++ (rs.drop i).flatMap bC := by rw [← List.flatMap_append, List.take_append_drop]
theorem AW (W0 : World) (R : List HP) (rs : List Rn) (a : Option Addr) (c bv : Nat) (x : Rn) (i : Nat) (hi : i ≤ rs.length) (hl : rs.length ≤ 1000) :
  ao Tryz.prog W0 336 [.slice a rs.length c, .int .i64 (i : Nat), .slice (some ⟨bv, 0, none⟩) 1 1] (osl 504 3 (.slice a rs.length c) (rs.flatMap bC) :: pt bv (aj (bC x) 504) :: R)
   (fun v B => ∃ a' c', v = .slice a' (rs.length + 1) c' ∧ B = osl 504 3 (.slice a' (rs.length + 1) c') ((fv rs i x).flatMap bC) :: R) := by
 have hLt : ((rs.take i).flatMap bC).length = i * 3 := by rw [cX iZ, List.length_take, Nat.min_eq_left hi]
 have hLd : ((rs.drop i).flatMap bC).length = (rs.length - i) * 3 := by rw [cX iZ, List.length_drop]
 have hLr : (rs.flatMap bC).length = rs.length * 3 := cX iZ rs
 refine aD Tryz.func336 Tryz.ntmps336 rfl rfl ?_
 refine al ?_
 refine A5 (E := 504) (sz := 3) (a := a) (c := c) (n := rs.length) (fun hcap => ?_)
 refine au 8 ?_
 refine aa rfl (jC eD f2 rfl (i := i) rfl rfl hi rfl) ?_
 refine au 16 ?_
 refine ai rfl ?_ ?_
 ·intro c3
  exact absurd c3 (by decide)
 ·intro c3
  refine au 17 ?_
  refine ai rfl ?_ ?_
  ·intro c6
   refine au 4 ?_
   refine ae rfl (dy (sz := 3) (by_ := 24) (info := Tryz.t504) eD (by kernel_rfl) rfl rfl rfl rfl (by decide) rfl rfl dz rfl rfl (by simp only [maxLen]; omega) (by omega)) ?_
   rintro _ _ ⟨a1, c1, rfl, rfl⟩
   refine au 5 ?_
   refine ah (.inl rfl) (.cons (ac rfl) .nil) ?_
   obtain rfl : i = rs.length := by omega
   refine ⟨_, ⟨a1, c1, rfl, rfl⟩, ?_⟩
   rw [ru, List.take_of_length_le (Nat.le_refl _), List.drop_length, List.flatMap_nil, List.append_nil]
   exact inferInstance
  ·intro c6
   have hi1 : i < rs.length := by omega
   refine dP (r := osl 504 3) (b := .slice a rs.length c) (gr (fun h1 h2 => by rw [h2] at hLr; simp at hLr; omega) fun g n' cap sp h1 h2 h3 h4 h5 => ?_)
   cases h1
   refine au 7 ?_
   refine aa rfl (bj rfl rfl (by rw [aK (by omega)]; omega : IntKind.wrap .i64 ((rs.length : Int) + ((1 : Nat) : Int)) = ((rs.length + 1 : Nat) : Int))) ?_
   refine aa rfl (ag rfl) (aa rfl (AK eD rfl) ?_)
   refine au 3 ?_
   refine ai rfl ?_ ?_
   ·intro c8
    refine au 4 ?_
    refine aa rfl (kb eD f2 rfl rfl rfl (by omega)) ?_
    refine au 2 ?_
    refine aa rfl (bj rfl rfl (by rw [aK (by omega)]; omega : IntKind.wrap .i64 ((rs.length : Int) + ((1 : Nat) : Int)) = ((rs.length + 1 : Nat) : Int))) ?_
    refine aa rfl (ag rfl) ?_
    refine aa rfl (dG rfl rfl (by rw [aK (by omega)]; omega : IntKind.wrap .i64 (((rs.length + 1 : Nat) : Int) - (i : Int)) = ((rs.length + 1 - i : Nat) : Int))) ?_
    refine ae rfl (AI (sz := 3) (by_ := 24) (info := Tryz.t504) (k := rs.length + 1 - i) (olds := (rs.take i).flatMap bC) eD dN (by kernel_rfl) rfl rfl rfl rfl (by decide) rfl rfl rfl (.inr ⟨g, 0, rfl, rm (l2 := (rs.drop i).flatMap bC ++ sp) (by rw [← List.append_assoc, ← oD]; exact dz (b := g))⟩) hLt (by omega) (by omega) (by simp only [maxLen]; omega) (by omega)) ?_
    rintro _ _ ⟨a9, k9, zs, rfl, hzs, rfl⟩
    rw [show i + (rs.length + 1 - i) = rs.length + 1 by omega]
    refine dP (r := osl 504 3) (b := .slice a9 (rs.length + 1) k9) (gr (fun q1 q2 => by
     have := congrArg List.length q2
     rw [List.length_append, hLt, hzs] at this; simp at this; omega) fun g9 n9 cap9 sp9 q1 q2 q3 q4 q5 => ?_)
    cases q1
    refine au 7 ?_
    refine aa rfl (jC eD f2 rfl (i := i) (a' := some ⟨g9, i * 3, none⟩) rfl rfl (by omega) (by rw [g8, if_neg (by omega)]; simp [f5])) ?_
    refine aa rfl (ag rfl) ?_
    refine ae rfl (kW eD f2 rfl rfl (m := 1) (vs := bC x) (Nat.min_eq_left (by omega)) (dz (b := bv)) rfl (rn x) (by rw [List.length_append, List.length_append, hLt, hzs]; omega) rfl) ?_
    rintro _ B_ ⟨rfl, hB_⟩
    obtain rfl := hB_.symm
    refine au 3 ?_
    refine bR [] 9 bQ rfl aB (fun hS => ?_)
    refine ab 0 rfl rfl rfl hS (ag rfl) ?_
    refine ab 1 rfl rfl rfl hS (ag rfl) ?_
    refine ab 2 rfl rfl rfl hS (ag rfl) ?_
    refine ab 3 rfl rfl rfl hS (bj rfl rfl (by rw [aK (by omega)]; omega : IntKind.wrap .i64 ((i : Int) + ((1 : Nat) : Int)) = ((i + 1 : Nat) : Int))) ?_
    refine ab 4 rfl rfl rfl hS (jC eD f2 rfl (i := i + 1) (a' := some ⟨g9, (i + 1) * 3, none⟩) rfl rfl (by omega) (by rw [g8, if_neg (by omega)]; simp [f5])) ?_
    refine ab 5 rfl rfl rfl hS (ag rfl) ?_
    refine ab 6 rfl rfl rfl hS (ag rfl) ?_
    refine ab 7 rfl rfl rfl hS (jC eD f2 rfl (i := i) (a' := some ⟨g, i * 3, none⟩) rfl rfl (by omega) (by rw [g8, if_neg (by omega)]; simp [f5])) ?_
    refine aW 8 (by kernel_rfl) rfl rfl (kW eD f2 rfl rfl (m := rs.length - i) (vs := (rs.drop i).flatMap bC) (Nat.min_eq_left (by omega)) (vl (b := g) (l1 := (rs.take i).flatMap bC) (l3 := sp) (by rw [← oD]) hLt) hLd (rp _) (by rw [m5, List.length_append, List.length_append, hLt, hzs]; omega) rfl) rfl ?_; clear hS
    rintro _ B_ ⟨rfl, hB_⟩
    obtain rfl := hB_.symm
    refine ⟨aB, fun hS => ?_⟩
    refine bz (by kernel_rfl) ?_; clear hS
    refine au 9 ?_
    refine ah (.inl rfl) (.cons (ac rfl) .nil) ?_
    obtain ⟨z1, z2, rfl, hz1⟩ : ∃ z1 z2, zs = z1 ++ z2 ∧ z1.length = 3 := ⟨zs.take 3, zs.drop 3, (List.take_append_drop 3 zs).symm, by rw [List.length_take]; omega⟩
    have hz2 : z2.length = (rs.length - i) * 3 := by rw [List.length_append] at hzs; omega
    have hL : setR (setR ((rs.take i).flatMap bC ++ (z1 ++ z2) ++ sp9) (i * 3) (bC x)) ((i + 1) * 3) ((rs.drop i).flatMap bC) = (fv rs i x).flatMap bC ++ sp9 := by
     rw [ru, ← hLt, show (rs.take i).flatMap bC ++ (z1 ++ z2) ++ sp9 = (rs.take i).flatMap bC ++ z1 ++ (z2 ++ sp9) by simp, oA (by rw [hz1]; rfl)]
     have e : (i + 1) * 3 = ((rs.take i).flatMap bC ++ bC x).length := by rw [List.length_append, hLt, iZ, Nat.succ_mul]
     rw [e, ← List.append_assoc, oA (by rw [hz2, hLd])]
    rw [hL]
    have hlen : ((fv rs i x).flatMap bC).length = (rs.length + 1) * 3 := by rw [cX iZ, oC x hi]
    refine ⟨_, ⟨some ⟨g9, 0, none⟩, k9, rfl, rfl⟩, ?_⟩
    exact eP q2 q3 hlen (by rw [List.length_append, hlen]; rw [List.length_append, List.length_append, hLt, List.length_append, hz1, hz2] at q5; omega)
   ·intro c8
    refine au 7 ?_
    refine aa rfl (bj rfl rfl (by rw [aK (by omega)]; omega : IntKind.wrap .i64 ((rs.length : Int) + ((1 : Nat) : Int)) = ((rs.length + 1 : Nat) : Int))) ?_
    refine aa rfl (kb eD f2 rfl rfl rfl (by omega)) ?_
    refine au 10 ?_
    refine aa rfl (bj rfl rfl (by rw [aK (by omega)]; omega : IntKind.wrap .i64 ((i : Int) + ((1 : Nat) : Int)) = ((i + 1 : Nat) : Int))) ?_
    refine aa rfl (jC eD f2 rfl (i := i + 1) (a' := some ⟨g, (i + 1) * 3, none⟩) rfl rfl (by omega) (by rw [g8, if_neg (by omega)]; simp [f5])) ?_
    refine aa rfl (AJ (v := .bool false) rfl (fun w hO => by have h1 := AM (P := Tryz.prog) (tR := 4) (oa := 0) (na := 1) (ca := 1) (ob := (i + 1) * 3) (nb := rs.length + 1 - (i + 1)) (cb := c - (i + 1)) (ba := bv) (ga := g) (la := bC x) (lb := rs.flatMap bC ++ sp) eD f2 (Nat.zero_le _) (by rw [h5]; omega) hO; rw [run_callFunc_extern Tryz.func372 (by kernel_rfl) (by kernel_rfl) (by kernel_rfl) (e := Extern.SlicesOverlaps.overlaps #[497, 497] #[4]) (by kernel_rfl), h1]; rfl)) ?_
    refine au 3 ?_
    refine ai rfl ?_ ?_
    ·intro c14
     refine al ?_
     refine bR [] 9 bQ rfl aB (fun hS => ?_)
     refine ab 0 rfl rfl rfl hS (ag rfl) ?_
     refine ab 1 rfl rfl rfl hS (ag rfl) ?_
     refine ab 2 rfl rfl rfl hS (ag rfl) ?_
     refine ab 3 rfl rfl rfl hS (bj rfl rfl (by rw [aK (by omega)]; omega : IntKind.wrap .i64 ((i : Int) + ((1 : Nat) : Int)) = ((i + 1 : Nat) : Int))) ?_
     refine ab 4 rfl rfl rfl hS (jC eD f2 rfl (i := i + 1) (a' := some ⟨g, (i + 1) * 3, none⟩) rfl rfl (by omega) (by rw [g8, if_neg (by omega)]; simp [f5])) ?_
     refine ab 5 rfl rfl rfl hS (ag rfl) ?_
     refine ab 6 rfl rfl rfl hS (ag rfl) ?_
     refine ab 7 rfl rfl rfl hS (jC eD f2 rfl (i := i) (a' := some ⟨g, i * 3, none⟩) rfl rfl (by omega) (by rw [g8, if_neg (by omega)]; simp [f5])) ?_
     refine aW 8 (by kernel_rfl) rfl rfl (kW eD f2 rfl rfl (m := rs.length - i) (vs := (rs.drop i).flatMap bC) ((Nat.min_eq_right (by omega)).trans (by omega)) (vl (b := g) (l1 := (rs.take i).flatMap bC) (l3 := sp) (by rw [← oD]) hLt) hLd (rp _) (by omega) rfl) rfl ?_; clear hS
     rintro _ B_ ⟨rfl, hB_⟩
     obtain rfl := hB_.symm
     refine ⟨aB, fun hS => ?_⟩
     refine bz (by kernel_rfl) ?_; clear hS
     refine au 5 ?_
     refine aa rfl (jC eD f2 rfl (i := i) (a' := some ⟨g, i * 3, none⟩) rfl rfl (by omega) (by rw [g8, if_neg (by omega)]; simp [f5])) ?_
     refine aa rfl (ag rfl) ?_
     refine ae rfl (kW eD f2 rfl rfl (m := 1) (vs := bC x) (Nat.min_eq_left (by omega)) (dz (b := bv)) rfl (rn x) (by rw [m5]; omega) rfl) ?_
     rintro _ B_ ⟨rfl, hB_⟩
     obtain rfl := hB_.symm
     refine au 10 ?_
     refine ah (.inl rfl) (.cons (ac rfl) .nil) ?_
     have hsp : 3 ≤ sp.length := by rw [List.length_append, hLr] at h5; omega
     obtain ⟨s1, s2, rfl, hs1⟩ : ∃ s1 s2, sp = s1 ++ s2 ∧ s1.length = 3 := ⟨sp.take 3, sp.drop 3, (List.take_append_drop 3 sp).symm, by rw [List.length_take]; omega⟩
     obtain ⟨q1, q2, hq, hq1⟩ : ∃ q1 q2, (rs.drop i).flatMap bC ++ s1 = q1 ++ q2 ∧ q1.length = 3 := ⟨((rs.drop i).flatMap bC ++ s1).take 3, ((rs.drop i).flatMap bC ++ s1).drop 3, (List.take_append_drop 3 _).symm, by rw [List.length_take, List.length_append]; omega⟩
     have hq2 : q2.length = ((rs.drop i).flatMap bC).length := by
      have := congrArg List.length hq
      rw [List.length_append, List.length_append] at this; omega
     have hL : setR (setR (rs.flatMap bC ++ (s1 ++ s2)) ((i + 1) * 3) ((rs.drop i).flatMap bC)) (i * 3) (bC x) = (fv rs i x).flatMap bC ++ s2 := by
      have h0 : rs.flatMap bC ++ (s1 ++ s2) = (rs.take i).flatMap bC ++ q1 ++ q2 ++ s2 := by
       conv => lhs; rw [oD rs i]
       rw [List.append_assoc, ← List.append_assoc ((rs.drop i).flatMap bC), hq]
       simp only [List.append_assoc]
      have e : (i + 1) * 3 = ((rs.take i).flatMap bC ++ q1).length := by rw [List.length_append, hLt, hq1, Nat.succ_mul]
      have h6 : (rs.take i).flatMap bC ++ q1 ++ (rs.drop i).flatMap bC ++ s2 = (rs.take i).flatMap bC ++ q1 ++ ((rs.drop i).flatMap bC ++ s2) := by simp only [List.append_assoc]
      have h7 := oA (p := (rs.take i).flatMap bC) (q := q1) (s := (rs.drop i).flatMap bC ++ s2) (r := bC x) (by rw [hq1]; rfl)
      rw [hLt] at h7
      rw [h0, e, oA hq2, h6, h7, ru]
      simp only [List.append_assoc]
     rw [hL]
     have hlen : ((fv rs i x).flatMap bC).length = (rs.length + 1) * 3 := by rw [cX iZ, oC x hi]
     refine ⟨_, ⟨some ⟨g, 0, none⟩, c, rfl, rfl⟩, ?_⟩
     exact eP (by omega) h3 hlen (by rw [List.length_append, hlen]; rw [List.length_append, List.length_append, hLr, hs1] at h5; omega)
    ·intro c14
     first | exact absurd rfl c14 | exact absurd (by decide) c14
def da (rs : List Rn) (n f k w : Int) : Int := if f < 0 ∨ k < 1 ∨ n < f ∨ n - f < k ∨ w < 0 ∨ 64 ≤ w then 1 else if i8 rs f k then 5 else 0
def dS (rs : List Rn) (n f k w : Int) : List Rn := if da rs n f k w = 0 then fv rs (fu rs f) (f, k, w) else rs
theorem rx {rs : List Rn} {n f k w : Int} (h : iG rs) (hn : n ≤ 64) : iG (dS rs n f k w) := by
 unfold dS; split
 ·rename_i he
  have hb : ¬ (f < 0 ∨ k < 1 ∨ n < f ∨ n - f < k ∨ w < 0 ∨ 64 ≤ w) := fun q => by rw [da, if_pos q] at he; exact absurd he (by decide)
  intro x hx
  rw [fv] at hx
  rcases List.mem_append.1 hx with q | q
  ·exact h x (List.mem_of_mem_take q)
  ·rcases List.mem_cons.1 q with rfl | q
   ·exact ⟨by show 0 ≤ f; omega, by show 1 ≤ k; omega, by show f + k ≤ 64; omega, by show 0 ≤ w; omega, by show w < 64; omega⟩
   ·exact h x (List.mem_of_mem_drop q)
 ·exact h
theorem vo {rs : List Rn} {n f k w : Int} : (dS rs n f k w).length ≤ rs.length + 1 := by
 unfold dS; split
 ·rw [oC _ (rr _ _)]; omega
 ·omega
theorem vp (W0 : World) (R : List HP) (b : Nat) (rs : List Rn) (n : Int) (hn : 0 ≤ n ∧ n ≤ 64) (hok : iG rs) (hl : rs.length ≤ 900) (f k w : Int) :
  ao Tryz.prog W0 262 [.pointer (some ⟨b, 0, none⟩), .int .i64 f, .int .i64 k, .int .i64 w] (gy b (rs, n) :: R) (fun v B => v = .int .i64 (da rs n f k w) ∧ B = gy b (dS rs n f k w, n) :: R) := by
 refine aD Tryz.func262 Tryz.ntmps262 rfl rfl ?_
 refine al ?_
 refine AO (b := b) fun a c => ?_
 dsimp only
 refine au 9 ?_
 refine ae rfl (aM Tryz.call332 rfl (AT W0 _ b rs.length c a n)) ?_
 rintro _ B_ ⟨rfl, hB_⟩
 obtain rfl := hB_.symm
 refine au 3 ?_
 refine ai rfl ?_ ?_
 ·intro c1
  exact absurd c1 (by decide)
 ·intro c1
  refine au 8 ?_
  refine ai rfl ?_ ?_
  ·intro c3
   refine au 11 ?_
   refine ah (.inl rfl) (.cons (ac rfl) .nil) ?_
   have he : da rs n f k w = 1 := by rw [da, if_pos (by omega)]
   rw [dS, he, if_neg (by decide)]
   exact ⟨_, ⟨rfl, rfl⟩, jl rfl rfl⟩
  ·intro c3
   refine au 7 ?_
   refine ai rfl ?_ ?_
   ·intro c4
    refine au 11 ?_
    refine ah (.inl rfl) (.cons (ac rfl) .nil) ?_
    have he : da rs n f k w = 1 := by rw [da, if_pos (by omega)]
    rw [dS, he, if_neg (by decide)]
    exact ⟨_, ⟨rfl, rfl⟩, jl rfl rfl⟩
   ·intro c4
    refine au 11 ?_
    refine ai rfl ?_ ?_
    ·intro c5
     refine au 11 ?_
     refine ah (.inl rfl) (.cons (ac rfl) .nil) ?_
     have he : da rs n f k w = 1 := by rw [da, if_pos (by omega)]
     rw [dS, he, if_neg (by decide)]
     exact ⟨_, ⟨rfl, rfl⟩, jl rfl rfl⟩
    ·intro c5
     refine au 8 ?_
     refine aa rfl (dG rfl rfl (aK (by omega))) ?_
     refine au 4 ?_
     refine ai rfl ?_ ?_
     ·intro c6
      refine au 11 ?_
      refine ah (.inl rfl) (.cons (ac rfl) .nil) ?_
      have he : da rs n f k w = 1 := by rw [da, if_pos (by omega)]
      rw [dS, he, if_neg (by decide)]
      exact ⟨_, ⟨rfl, rfl⟩, jl rfl rfl⟩
     ·intro c6
      refine au 7 ?_
      refine ai rfl ?_ ?_
      ·intro c7
       refine au 11 ?_
       refine ah (.inl rfl) (.cons (ac rfl) .nil) ?_
       have he : da rs n f k w = 1 := by rw [da, if_pos (by omega)]
       rw [dS, he, if_neg (by decide)]
       exact ⟨_, ⟨rfl, rfl⟩, jl rfl rfl⟩
      ·intro c7
       refine au 6 ?_
       refine ai rfl ?_ ?_
       ·intro c8
        refine au 8 ?_
        refine ah (.inl rfl) (.cons (ac rfl) .nil) ?_
        have he : da rs n f k w = 1 := by rw [da, if_pos (by omega)]
        rw [dS, he, if_neg (by decide)]
        exact ⟨_, ⟨rfl, rfl⟩, jl rfl rfl⟩
       ·intro c8
        refine au 8 ?_
        refine ae rfl (eE Tryz.call335 rfl (AU W0 _ b c rs n a hok (by omega) f k (by omega))) ?_
        rintro _ B_ ⟨rfl, hB_⟩
        obtain rfl := hB_.symm
        refine au 13 ?_
        refine ai rfl ?_ ?_
        ·intro c11
         refine au 7 ?_
         refine ah (.inl rfl) (.cons (ac rfl) .nil) ?_
         have he : da rs n f k w = 5 := by rw [da, if_neg (by omega), if_pos c11]
         rw [dS, he, if_neg (by decide)]
         exact ⟨_, ⟨rfl, rfl⟩, jl rfl rfl⟩
        ·intro c11
         refine au 3 ?_
         have he : da rs n f k w = 0 := by rw [da, if_neg (by omega), if_neg c11]
         have hal := rr rs f
         refine zX (E := 504) (sz := 3) (a := a) (n := rs.length) (c := c) bC rs iZ (by decide) rfl (fun hs => ?_)
         refine au 6 ?_
         refine ae rfl (aF Tryz.call337 rfl (AV W0 _ rs a rs.length c rfl (by omega) hs)) ?_
         rintro _ B_ ⟨a2, cc, rfl, hB_⟩
         obtain rfl := hB_.symm
         refine au 4 ?_
         refine aa rfl (bI ti tf (aA ar (aA ar (aA ar bH))) (aS rfl ar rfl rfl (Nat.le_of_ble_eq_true rfl) SetL.eq (aS rfl ar rfl rfl (Nat.le_of_ble_eq_true rfl) SetL.eq (aS rfl ar rfl rfl (Nat.le_of_ble_eq_true rfl) SetL.eq bG)))) ?_
         refine ae rfl (fF eD f2 tf rfl (eo rfl rfl fD) rfl (by decide) (by decide) (by decide)) ?_
         rintro _ _ ⟨bv, rfl, rfl⟩
         refine ae rfl (eE Tryz.call336 rfl (AW W0 _ rs a2 cc bv (f, k, w) (fu rs f) hal (by omega))) ?_
         rintro _ B_ ⟨a3, c3', rfl, hB_⟩
         obtain rfl := hB_.symm
         refine au 2 ?_
         refine b0 (bN pp rfl rfl rfl (Nat.le_of_ble_eq_true rfl) SetL.eq) ?_
         rintro _ _ rfl
         refine au 8 ?_
         refine ah (.inl rfl) (.cons (ac rfl) .nil) ?_
         rw [dS, he, if_pos rfl]
         exact ⟨_, ⟨rfl, rfl⟩, jl (oC _ hal).symm rfl⟩
def eJ : List Rn → Int → Option Int
  | [], _ => none
  | x :: l, i => if x.1 ≤ i ∧ i < x.1 + x.2.1 then some x.2.2 else eJ l i
theorem AX {rs : List Rn} (h : iG rs) : ∀ {x w : Int}, eJ rs x = some w → 0 ≤ w ∧ w < 64 := by
 intro x w hw
 induction rs with
 | nil => cases hw
 | cons y l ih =>
  rw [eJ] at hw
  split at hw
  ·cases hw
   have := h y (by simp)
   exact ⟨this.2.2.2.1, this.2.2.2.2⟩
  ·exact ih (fun z hz => h z (by simp [hz])) hw
def ks (rs : List Rn) : Prop := rs.Pairwise fun x y => x.1 + x.2.1 ≤ y.1
theorem vq (x : Rn) (l : List Rn) (f k : Int) : i8 (x :: l) f k = if x.1 + x.2.1 ≤ f then i8 l f k else decide (x.1 < f + k) := by
 unfold i8; rw [fu]
 by_cases h : x.1 + x.2.1 ≤ f
 ·simp only [if_pos h, List.getElem?_cons_succ]
 ·simp only [if_neg h, List.getElem?_cons_zero]
theorem vr (x y : Rn) (l : List Rn) (f : Int) : fv (x :: l) (fu (x :: l) f) y = if x.1 + x.2.1 ≤ f then x :: fv l (fu l f) y else y :: x :: l := by
 unfold fv; rw [fu]
 by_cases h : x.1 + x.2.1 ≤ f
 ·simp only [if_pos h, List.take_succ_cons, List.drop_succ_cons, List.cons_append]
 ·simp only [if_neg h, List.take_zero, List.drop_zero, List.nil_append]
theorem AY {l : List Rn} {i : Int} (h : eJ l i ≠ none) : ∃ y ∈ l, y.1 ≤ i ∧ i < y.1 + y.2.1 := by
 induction l with
 | nil => exact absurd rfl h
 | cons x l ih =>
  rw [eJ] at h
  by_cases q : x.1 ≤ i ∧ i < x.1 + x.2.1
  ·exact ⟨x, by simp, q⟩
  ·rw [if_neg q] at h
   obtain ⟨y, hy, h2⟩ := ih h
   exact ⟨y, by simp [hy], h2⟩
theorem vt : ∀ {rs : List Rn} {f k : Int}, ks rs → (∀ x ∈ rs, 1 ≤ x.2.1) → 1 ≤ k → (i8 rs f k = true ↔ ∃ i, f ≤ i ∧ i < f + k ∧ eJ rs i ≠ none)
 | [], f, k, _, _, _ => by
  constructor
  ·intro h; simp [i8] at h
  ·rintro ⟨i, _, _, h⟩; exact absurd rfl h
 | x :: l, f, k, hs, hp, hk => by
  obtain ⟨h1, h2⟩ := List.pairwise_cons.1 hs
  have hx := hp x (by simp)
  rw [vq]
  by_cases q : x.1 + x.2.1 ≤ f
  ·rw [if_pos q, vt h2 (fun y hy => hp y (by simp [hy])) hk]
   constructor
   ·rintro ⟨i, a, b, c⟩; exact ⟨i, a, b, by rw [eJ, if_neg (by omega)]; exact c⟩
   ·rintro ⟨i, a, b, c⟩; rw [eJ, if_neg (by omega)] at c; exact ⟨i, a, b, c⟩
  ·rw [if_neg q, decide_eq_true_iff]
   constructor
   ·intro h
    by_cases q2 : f ≤ x.1
    ·exact ⟨x.1, q2, h, by rw [eJ, if_pos (by omega)]; simp⟩
    ·exact ⟨f, Int.le_refl _, by omega, by rw [eJ, if_pos (by omega)]; simp⟩
   ·rintro ⟨i, a, b, c⟩
    rw [eJ] at c
    by_cases q2 : x.1 ≤ i ∧ i < x.1 + x.2.1
    ·omega
    ·rw [if_neg q2] at c
     obtain ⟨y, hy, h3⟩ := AY c
     have := h1 y hy
     omega
theorem vu : ∀ {rs : List Rn} {f k w : Int} (i : Int), eJ (fv rs (fu rs f) (f, k, w)) i = if f ≤ i ∧ i < f + k then some w else eJ rs i
 | [], f, k, w, i => by
  show eJ [(f, k, w)] i = _
  rw [eJ, eJ]; rfl
 | x :: l, f, k, w, i => by
  rw [vr]
  by_cases q : x.1 + x.2.1 ≤ f
  ·rw [if_pos q, eJ, vu i, eJ]
   by_cases q2 : x.1 ≤ i ∧ i < x.1 + x.2.1
   ·rw [if_pos q2, if_pos q2, if_neg (by omega)]
   ·rw [if_neg q2, if_neg q2]
  ·rw [if_neg q, eJ]
theorem AZ {x y : Rn} {l : List Rn} {i : Nat} (h : x ∈ fv l i y) : x = y ∨ x ∈ l := by
 unfold fv at h
 rcases List.mem_append.1 h with q | q
 ·exact .inr (List.mem_of_mem_take q)
 ·rcases List.mem_cons.1 q with q | q
  ·exact .inl q
  ·exact .inr (List.mem_of_mem_drop q)
theorem vv : ∀ {rs : List Rn} {f k w : Int}, ks rs → (∀ x ∈ rs, 1 ≤ x.2.1) → i8 rs f k = false → ks (fv rs (fu rs f) (f, k, w))
 | [], f, k, w, _, _, _ => List.pairwise_singleton _ _
 | x :: l, f, k, w, hs, hp, hm => by
  obtain ⟨h1, h2⟩ := List.pairwise_cons.1 hs
  have hx := hp x (by simp)
  rw [vq] at hm
  rw [vr]
  by_cases q : x.1 + x.2.1 ≤ f
  ·rw [if_pos q] at hm ⊢
   refine List.pairwise_cons.2 ⟨fun y hy => ?_, vv h2 (fun y hy => hp y (by simp [hy])) hm⟩
   rcases AZ hy with rfl | hy
   ·exact q
   ·exact h1 y hy
  ·rw [if_neg q] at hm ⊢
   have hm := of_decide_eq_false hm
   refine List.pairwise_cons.2 ⟨fun y hy => ?_, hs⟩
   rcases List.mem_cons.1 hy with rfl | hy
   ·show f + k ≤ _; omega
   ·have := h1 y hy
    show f + k ≤ _; omega
theorem vw {rs : List Rn} {n f k w : Int} (h : ks rs) (hp : ∀ x ∈ rs, 1 ≤ x.2.1) : ks (dS rs n f k w) := by
 unfold dS; split
 ·rename_i he
  unfold da at he
  split at he
  ·exact absurd he (by decide)
  ·split at he
   ·exact absurd he (by decide)
   ·rename_i q; exact vv h hp (by simpa using q)
 ·exact h
structure RT (rs : List Rn) (L : List Int) : Prop where
  at_ : ∀ i : Nat, i < L.length → L.getD i (-1) = (eJ rs i).getD (-1)
  s : ks rs
  ok : iG rs
def eK (L : List Int) (f k w : Int) : Int := if f < 0 ∨ k < 1 ∨ (L.length : Int) < f ∨ L.length - f < k ∨ w < 0 ∨ 64 ≤ w then 1 else if (List.range k.toNat).any (fun i => decide (0 ≤ L.getD (f.toNat + i) (-1))) then 5 else 0
def gi (L : List Int) (f k w : Int) : List Int := if eK L f k w = 0 then (List.range L.length).map fun (i : Nat) => if f ≤ i ∧ (i : Int) < f + k then w else L.getD i (-1) else L
theorem ry {L : List Int} {f k w : Int} : (gi L f k w).length = L.length := by unfold gi; split <;> simp
theorem vx {rs : List Rn} (h : iG rs) {i : Int} : 0 ≤ (eJ rs i).getD (-1) ↔ eJ rs i ≠ none := by
 cases e : eJ rs i with
 | none => simp
 | some w => have := AX h e; simp; omega
theorem B1 {rs : List Rn} {L : List Int} (h : RT rs L) {f k : Int} (hb : 0 ≤ f ∧ 1 ≤ k ∧ f + k ≤ L.length) : (List.range k.toNat).any (fun i => decide (0 ≤ L.getD (f.toNat + i) (-1))) = i8 rs f k := by
 rw [Bool.eq_iff_iff, vt h.s (fun x hx => (h.ok x hx).2.1) hb.2.1, List.any_eq_true]
 constructor
 ·rintro ⟨i, hi, hd⟩
  have hi := List.mem_range.1 hi
  have hd := of_decide_eq_true hd
  rw [h.at_ _ (by omega)] at hd
  exact ⟨((f.toNat + i : Nat) : Int), by omega, by omega, (vx h.ok).1 hd⟩
 ·rintro ⟨i, a, b, c⟩
  refine ⟨(i - f).toNat, List.mem_range.2 (by omega), decide_eq_true ?_⟩
  rw [h.at_ _ (by omega), show ((f.toNat + (i - f).toNat : Nat) : Int) = i by omega]
  exact (vx h.ok).2 c
theorem rz {rs : List Rn} {L : List Int} (h : RT rs L) {n : Int} (hn : n = L.length) (f k w : Int) : eK L f k w = da rs n f k w := by
 unfold eK da
 rw [hn]
 by_cases q : f < 0 ∨ k < 1 ∨ (L.length : Int) < f ∨ L.length - f < k ∨ w < 0 ∨ 64 ≤ w
 ·rw [if_pos q, if_pos q]
 ·rw [if_neg q, if_neg q, B1 h (by omega)]
theorem vy {rs : List Rn} {L : List Int} (h : RT rs L) {n : Int} (hn : n = L.length) (h64 : n ≤ 64) (f k w : Int) : RT (dS rs n f k w) (gi L f k w) := by
 refine ⟨fun i hi => ?_, vw h.s (fun x hx => (h.ok x hx).2.1), rx h.ok h64⟩
 rw [ry] at hi
 unfold gi dS
 rw [rz h hn]
 by_cases q : da rs n f k w = 0
 ·rw [if_pos q, if_pos q, vu]
  simp only [List.getD, List.getElem?_map, List.getElem?_range hi, Option.map_some, Option.getD_some]
  by_cases q2 : f ≤ (i : Int) ∧ (i : Int) < f + k
  ·rw [if_pos q2, if_pos q2]; rfl
  ·rw [if_neg q2, if_neg q2]; exact h.at_ i hi
 ·rw [if_neg q, if_neg q]; exact h.at_ i hi
theorem vz (n : Nat) : RT [] (List.replicate n (-1)) := ⟨fun i hi => by simp at hi; simp [List.getD, hi, eJ], List.Pairwise.nil, fun x hx => by simp at hx⟩
section
variable {P : Program} {W0 : World} {N : FSz} {e : bq} {A R : List HP} {t : TypeId} {v : Value} {x y : Operand} {l' ys : List Value}
theorem B2 {E sz n c g j : Nat} [h : Tk (osl E sz) (.slice (some ⟨g, 0, none⟩) n c) A ys R] (hs : ∀ w, (sizeOf t).run P w = .ok 1 w) (hx : ev e x = some (.pointer (some ⟨g, j, none⟩))) (hy : ev e y = some v)
  (h1 : v.oneCell' = true) (hj : j < ys.length) (hl : ys.set j v = l') : cQ P W0 N e A (.store t x y) (fun _ B => B = osl E sz (.slice (some ⟨g, 0, none⟩) n c) l' :: R) := by
 intro a w dst ty pos af gd K Q hF hO k
 rcases (hO.tk (r := osl E sz) (b := .slice (some ⟨g, 0, none⟩) n c)).osl with ⟨k1, _, _⟩ | ⟨g', n', cap, sp, k1, k2, k3, k4, k5, k6⟩
 ·cases k1
 ·cases k1
  refine bN (b := g) (l := ys ++ sp) hs hx hy h1 (by rw [List.length_append]; omega) rfl a w dst ty pos af gd K Q hF k6 fun v' w' B hp hO' => ?_
  subst hp
  refine k v' w' _ rfl (hO'.ent ?_)
  have e1 : (ys ++ sp).set j v = l' ++ sp := by rw [List.set_append_left _ _ hj, hl]
  rw [e1]
  exact eP k2 k3 (by rw [← hl, List.length_set]; exact k4) (by rw [← hl, List.length_append, List.length_set, ← List.length_append]; exact k5)
theorem di {S : World → Prop} {E n c j sz o' b off : Nat} {k : IntKind} {i : Int} {a' : Option Addr} (hu : P.underlying t = some (.slice E)) (hs : ∀ w, (sizeOf E).run P w = .ok sz w) (hx : ev e x = some (.slice a' n c)) (ha : a' = some ⟨b, off, none⟩) (hy : ev e y = some (.int k i))
  (hi : i = (j : Int)) (hj : j < n) (ho : off + j * sz = o') : bP P S N e (.indexAddr t x y) (.pointer (some ⟨b, o', none⟩)) := by
 subst ha; exact bM hu hs hx hy hi hj ho
instance (priority := high) ent_nil {A : List HP} : Ent A [] := ⟨fun l _ => ⟨[], l, rfl, List.Perm.refl _⟩⟩
end
abbrev cJ (c : Cfg) : Obj := aj (bF c) 29
def fT (c : Cfg) (i : Nat) : Rn := c.rl.getD i (0, 0, 0)
def eu (c : Cfg) : Nat → List Rn
  | 0 => []
  | i + 1 => if dp (fT c i).1 c.cats = true then dS (eu c i) 32 (fT c i).2.1 (fT c i).2.2 i else eu c i
theorem vA (c : Cfg) : ∀ i, iG (eu c i) ∧ (eu c i).length ≤ i ∧ ks (eu c i)
 | 0 => ⟨fun x hx => by simp [eu] at hx, Nat.le_refl _, List.Pairwise.nil⟩
 | i + 1 => by
  obtain ⟨h1, h2, h3⟩ := vA c i
  rw [eu]; split
  ·exact ⟨rx h1 (by decide), Nat.le_trans vo (by omega), vw h3 fun x hx => (h1 x hx).2.1⟩
  ·exact ⟨h1, by omega, h3⟩
def iH (c : Cfg) (i : Nat) : Bool := !(dp (fT c i).1 c.cats && decide (da (eu c i) 32 (fT c i).2.1 (fT c i).2.2 i = 0))
theorem B3 (W0 : World) (b1 b4 bt : Nat) (c : Cfg) (hl : c.rl.length ≤ 8) (hs : ∀ A, bT (bu W0 A) c.ra 3 dB c.rl) :
  WF W0 261 [.pointer (some ⟨b1, 0, none⟩), .pointer (some ⟨b4, 0, none⟩)] c.rl.length (fun i => aX [pt b1 (cJ c), pt b4 (aj [.pointer (some ⟨bt, 0, none⟩)] 405), gy bt (eu c i, 32)]) (iH c) := ⟨Tryz.call261, fun i hi R => by
 refine l9 ?_
 simp only [List.cons_append, List.nil_append]
 obtain ⟨g, o, hra, hc⟩ := (hs (pt b1 (cJ c) :: R)).at_ hi
 obtain ⟨x, hx⟩ : ∃ x, c.rl[i] = x := ⟨_, rfl⟩
 have hA : fT c i = x := by simp [fT, List.getD, hi, hx]
 rw [hx] at hc
 obtain ⟨h1, h2, h3⟩ := vA c i
 have hT : eu c (i + 1) = if dp x.1 c.cats = true then dS (eu c i) 32 x.2.1 x.2.2 i else eu c i := by rw [eu, hA]
 have hW : iH c i = !(dp x.1 c.cats && decide (da (eu c i) 32 x.2.1 x.2.2 i = 0)) := by rw [iH, hA]
 rw [hT, hW]
 generalize eu c i = T at h1 h2 h3 ⊢
 refine d5 Tryz.func261 Tryz.ntmps261 rfl rfl ?_
 refine al (az (aa rfl (ax rfl) (aw (ak (al (az ?_))))))
 refine aa rfl (ap rfl cG rfl jO rfl (by first | exact Nat.zero_add _ | rfl)) ?_
 refine aa rfl (am pf rfl (aH rfl)) ?_
 refine aa rfl (ag rfl) ?_
 refine aa rfl (di gX ij rfl hra rfl rfl hi (by first | exact Nat.zero_add _ | rfl)) ?_
 refine aa rfl (cj y2 ij rfl hc.weak rfl) ?_
 refine ae rfl (cd pE) ?_
 rintro _ _ ⟨bx, rfl, rfl⟩
 refine b0 (bS ij rfl rfl rfl rfl rfl) ?_
 rintro _ _ rfl
 refine aw (ak (al (az ?_)))
 refine aa rfl (ap rfl gZ rfl ar rfl (by first | exact Nat.zero_add _ | rfl)) ?_
 refine aa rfl (am aT rfl (aH rfl)) ?_
 refine aa rfl (ap rfl cG rfl ar rfl (by first | exact Nat.zero_add _ | rfl)) ?_
 refine aa rfl (am aT rfl (aH rfl)) ?_
 refine ae rfl (aF xZ rfl (ri W0 _ x.1 c.cats)) ?_
 rintro _ B_ ⟨rfl, hB_⟩
 obtain rfl := hB_.symm
 refine aa rfl (fM rfl) (aa rfl (ag rfl) ?_)
 refine aZ rfl rfl rfl ?_ ?_
 ·intro g2_7
  have hv : dp x.1 c.cats = false := by first | exact g2_7 | simpa using g2_7
  rw [hv]
  refine bK rfl rfl rfl rfl (bK rfl rfl rfl rfl (bK rfl rfl rfl rfl (bK rfl rfl rfl rfl (bK rfl rfl rfl rfl (bK rfl rfl rfl rfl (bK rfl rfl rfl rfl (aa rfl (cV rfl rfl) (aa rfl (ax rfl) (aw (ak (bY (ah (.inl rfl) (.cons (ac rfl) .nil) ?_))))))))))))
  refine ⟨_, ⟨?_, rfl⟩, ?_⟩
  ·refine congrArg Value.bool ?_
   first
    | rfl
    | (rw [Bool.true_and, bne, Bool.eq_iff_iff]; simp)
  ·first
    | (rw [if_pos rfl]; exact inferInstance)
    | (rw [if_neg (by decide)]; exact inferInstance)
 ·intro g2_7
  have hv : dp x.1 c.cats = true := by first | exact g2_7 | simpa using g2_7
  rw [hv]
  refine aa rfl (am Tryz.isAgg405 rfl (aH rfl)) ?_
  refine aY rfl rfl ?_
  refine aa rfl (ap rfl gZ rfl ar rfl (by first | exact Nat.zero_add _ | rfl)) ?_
  refine aY rfl rfl (aa rfl (am aT rfl (aH rfl)) ?_)
  refine aY rfl rfl ?_
  refine aa rfl (ap rfl gZ rfl ar rfl (by first | exact Nat.zero_add _ | rfl)) ?_
  refine aY rfl rfl (aa rfl (am aT rfl (aH rfl)) ?_)
  refine aY rfl rfl (aa rfl (ag rfl) (aY rfl rfl ?_))
  refine ae rfl (aM Tryz.call262 rfl (vp W0 _ bt T 32 (by decide) h1 (by omega) x.2.1 x.2.2 i)) ?_
  rintro _ B_ ⟨rfl, hB_⟩
  obtain rfl := hB_.symm
  refine aY rfl rfl (aa rfl (du rfl rfl) (aa rfl (d4 rfl rfl) (aa rfl (ax rfl) (aw (ak (bY (ah (.inl rfl) (.cons (ac rfl) .nil) ?_)))))))
  refine ⟨_, ⟨?_, rfl⟩, ?_⟩
  ·refine congrArg Value.bool ?_
   first
    | rfl
    | (rw [Bool.true_and, bne, Bool.eq_iff_iff]; simp)
  ·first
    | (rw [if_pos rfl]; exact inferInstance)
    | (rw [if_neg (by decide)]; exact inferInstance)
 ⟩
def fV (c : Cfg) : Bool := decide (8 < c.rl.length) || gx (iH c) c.rl.length
theorem B4 (W0 : World) (R : List HP) (c : Cfg) (hs : ∀ A, bT (bu W0 A) c.ra 3 dB c.rl) :
  ao Tryz.prog W0 144 [.agg (bF c).toArray] R (fun v B => ∃ r, v = .tuple #[.int .i64 r, .bool (fV c)] ∧ B = R) := by
 refine aD Tryz.func144 Tryz.ntmps144 rfl rfl ?_
 refine au 2 ?_
 refine ae rfl (bw rfl) ?_
 rintro _ _ ⟨b1, rfl, rfl⟩
 refine au 13 ?_
 refine ai rfl ?_ ?_
 ·intro c1
  refine au 8 ?_
  refine ah (.inl rfl) (.cons (ac rfl) (.cons (ac rfl) .nil)) ?_
  rw [fV, decide_eq_true (by omega), Bool.true_or]
  exact ⟨_, ⟨0, rfl, rfl⟩, inferInstance⟩
 ·intro c1
  refine au 4 ?_
  refine ae rfl (aF Tryz.call260 rfl (vn W0 _ 32 (by decide))) ?_
  rintro _ B_ ⟨bt, rfl, hB_⟩
  obtain rfl := hB_.symm
  refine au 3 ?_
  refine ae rfl (nF Tryz.zeroValue405 rfl) ?_
  rintro _ _ ⟨b4, rfl, rfl⟩
  refine b0 (bN y3 rfl rfl rfl (Nat.le_of_ble_eq_true rfl) SetL.eq) ?_
  rintro _ _ rfl
  refine au 4 ?_
  refine eN (B := kH 0 (aX [pt b1 (cJ c), pt b4 (aj [.pointer (some ⟨bt, 0, none⟩)] 405), gy bt ([], 32)]) :: R) inferInstance ?_
  refine zW ?_
  simp only [List.cons_append, List.nil_append]
  refine au 4 ?_
  refine aa rfl (i7 rfl rfl) ?_
  refine ae rfl (z7 (B := kH 0 (aX [pt b1 (cJ c), pt b4 (aj [.pointer (some ⟨bt, 0, none⟩)] 405), gy bt ([], 32)]) :: R) inferInstance (aF pD rfl (vk W0 R 261 [.pointer (some ⟨b1, 0, none⟩), .pointer (some ⟨b4, 0, none⟩)] c.rl.length (fun i => aX [pt b1 (cJ c), pt b4 (aj [.pointer (some ⟨bt, 0, none⟩)] 405), gy bt (eu c i, 32)]) (iH c) (B3 W0 b1 b4 bt c (by omega) hs) (by omega)))) ?_
  rintro _ B_ ⟨r, rfl, hB_⟩
  obtain rfl := hB_.symm
  refine au 7 ?_
  refine ah (.inl rfl) (.cons (ac rfl) (.cons (ac rfl) .nil)) ?_
  rw [fV, decide_eq_false (by omega), Bool.false_or]
  exact ⟨_, ⟨r, rfl, rfl⟩, inferInstance⟩
def gQ (c : Cfg) (g : Int) (k : Nat) : Bool := (c.pl.take k).any fun q => decide (q.2 = g)
theorem B5 (W0 : World) (R : List HP) (c : Cfg) (g : Int) (k : Nat) (hk : k < c.pl.length) (hl : c.pl.length ≤ 8) (hcap : c.pl.length ≤ c.pc) (hs : ∀ A, bT (bu W0 A) c.pa 2 cM c.pl) :
  ao Tryz.prog W0 265 [.agg (bF c).toArray, .int .i64 g, .int .i64 k] R (fun v B => v = .bool (gQ c g k) ∧ B = R) := by
 refine aD Tryz.func265 Tryz.ntmps265 rfl rfl ?_
 refine au 2 ?_
 refine ae rfl (bw rfl) ?_
 rintro _ _ ⟨b1, rfl, rfl⟩
 refine au 9 ?_
 refine aa rfl (kb gE eT rfl rfl (h := k) rfl (by omega)) ?_
 refine au 5 ?_
 refine ce (fun i : Nat => i ≤ k ∧ ∀ j, j < i → (c.pl.getD j (0, 0)).2 ≠ g) (fun i => [(1, .int .i64 g), (12, .slice c.pa k c.pc), (13, .int .i64 k), (14, .int .i64 i)]) (fun _ => R) (fun i => k - i) 0 ?_ ?_ ?_ ?_
 ·exact ⟨Nat.zero_le _, fun j hj => absurd hj (Nat.not_lt_zero _)⟩
 ·repeat (first | exact aJ | refine aG rfl ?_)
 ·exact inferInstance
 ·intro i ⟨hi, hI⟩
  refine au 6 ?_
  refine ai rfl ?_ ?_
  ·intro c2
   refine au 5 ?_
   have hi1 : i < c.pl.length := by omega
   have hik : i < k := by omega
   obtain ⟨gp, o, hpa, hc⟩ := (hs R).at_ hi1
   obtain ⟨x, hx⟩ : ∃ x, c.pl[i] = x := ⟨_, rfl⟩
   have hgd : c.pl.getD i (0, 0) = x := by simp [List.getD, hi1, hx]
   rw [hx] at hc
   refine az ?_
   refine aa rfl (di gE eT rfl hpa rfl rfl hik (by first | exact Nat.zero_add _ | rfl)) ?_
   refine aa rfl (cj ni eT rfl hc.weak rfl) ?_
   refine ae rfl (cd jR) ?_
   rintro _ _ ⟨bx, rfl, rfl⟩
   refine b0 (bS eT rfl rfl rfl rfl rfl) ?_
   rintro _ _ rfl
   refine au 10 ?_
   refine ai rfl ?_ ?_
   ·intro c4
    refine au 11 ?_
    refine ah (.inl rfl) (.cons (ac rfl) .nil) ?_
    have ht : gQ c g k = true := by
     rw [gQ, List.any_eq_true]
     exact ⟨x, by rw [← hx]; exact List.mem_take_iff_getElem.2 ⟨i, by omega, rfl⟩, decide_eq_true c4⟩
    rw [ht]
    exact ⟨_, ⟨rfl, rfl⟩, inferInstance⟩
   ·intro c4
    refine au 4 ?_
    refine aa rfl (bj rfl rfl (by first | exact aK (by omega) | rfl)) ?_
    refine au 3 ?_
    refine bU (i + 1) ?_ ?_ ?_ ?_
    ·refine ⟨by omega, fun j hj => ?_⟩
     rcases Nat.lt_or_ge j i with q | q
     ·exact hI j q
     ·rw [show j = i by omega, hgd]; exact c4
    ·omega
    ·repeat (first | exact aJ | refine aG rfl ?_)
    ·exact inferInstance
  ·intro c2
   refine au 11 ?_
   refine ah (.inl rfl) (.cons (ac rfl) .nil) ?_
   have ht : gQ c g k = false := by
    rw [gQ, List.any_eq_false]
    intro x hx
    obtain ⟨j, hj, rfl⟩ := List.mem_take_iff_getElem.1 hx
    have := hI j (by omega)
    rw [show c.pl.getD j (0, 0) = c.pl[j]'(by omega) by simp [List.getD, show j < c.pl.length by omega]] at this
    simpa using this
   rw [ht]
   exact ⟨_, ⟨rfl, rfl⟩, inferInstance⟩
def iI (c : Cfg) (i : Nat) : Bool := !dp (c.pl.getD i (0, 0)).1 c.cats || (decide ((c.pl.getD i (0, 0)).2 ≠ -1) && (!dK c (c.pl.getD i (0, 0)).2 || decide ((c.pl.getD i (0, 0)).1 ≠ f8 c (c.pl.getD i (0, 0)).2) || gQ c (c.pl.getD i (0, 0)).2 i))
theorem B6 (W0 : World) (b1 : Nat) (c : Cfg) (hl : c.pl.length ≤ 8) (hcap : c.pl.length ≤ c.pc) (hs : ∀ A, bT (bu W0 A) c.pa 2 cM c.pl) (hgs : ∀ A, bT (bu W0 A) c.ga 3 dB c.gl) :
  WF W0 263 [.pointer (some ⟨b1, 0, none⟩)] c.pl.length (fun _ => aX [pt b1 (cJ c)]) (iI c) := ⟨Tryz.call263, fun i hi R => by
 refine l9 ?_
 simp only [List.cons_append, List.nil_append]
 obtain ⟨g, o, hpa, hc⟩ := (hs (pt b1 (cJ c) :: R)).at_ hi
 obtain ⟨⟨p, q⟩, hx⟩ : ∃ x, c.pl[i] = x := ⟨_, rfl⟩
 have hgd : c.pl.getD i (0, 0) = (p, q) := by simp [List.getD, hi, hx]
 have hW : iI c i = (!dp p c.cats || (decide (q ≠ -1) && (!dK c q || decide (p ≠ f8 c q) || gQ c q i))) := by rw [iI, hgd]
 rw [hx] at hc
 rw [hW]
 have hrow : ∃ (gg og j : Nat) (vs : List Value), (∀ A, cp (bu W0 A) gg (og + j * 3) vs) ∧ (dK c q = true → c.ga = some ⟨gg, og, none⟩ ∧ q = (j : Int) ∧ j < c.gl.length ∧ ∃ u : Int × Int × Int, vs = dB u ∧ f8 c q = u.1) := by
  cases hG : dK c q with
  | false => exact ⟨0, 0, 0, [], fun A k v hk => by simp at hk, fun h => by cases h⟩
  | true =>
   have hb : 0 ≤ q ∧ q < c.gl.length := of_decide_eq_true hG
   obtain ⟨j, rfl⟩ : ∃ j : Nat, q = (j : Int) := ⟨q.toNat, by omega⟩
   have hj : j < c.gl.length := by omega
   obtain ⟨gg, og, hga, _⟩ := (hgs []).at_ hj
   refine ⟨gg, og, j, dB c.gl[j], fun A => ?_, fun _ => ⟨hga, rfl, hj, c.gl[j], rfl, ?_⟩⟩
   ·obtain ⟨g2, o2, h2, hc2⟩ := (hgs A).at_ hj
    rw [hga] at h2; cases h2; exact hc2
   ·rw [f8, Int.toNat_natCast]; simp [List.getD, hj]
 obtain ⟨gg, og, j, vs, hcv, hrw⟩ := hrow
 obtain ⟨w, hw⟩ : ∃ w, dK c q = w := ⟨_, rfl⟩
 rw [hw] at hrw ⊢
 refine aD Tryz.func263 Tryz.ntmps263 rfl rfl ?_
 refine au 10 ?_
 refine aa rfl (di gE eT rfl hpa rfl rfl hi (by first | exact Nat.zero_add _ | rfl)) ?_
 refine aa rfl (cj ni eT rfl hc.weak rfl) ?_
 refine ae rfl (cd jR) ?_
 rintro _ _ ⟨bx, rfl, rfl⟩
 refine b0 (bS eT rfl rfl rfl rfl rfl) ?_
 rintro _ _ rfl
 refine au 10 ?_
 refine ae rfl (aF xZ rfl (ri W0 _ p c.cats)) ?_
 rintro _ B_ ⟨rfl, hB_⟩
 obtain rfl := hB_.symm
 refine au 4 ?_
 refine ai rfl ?_ ?_
 ·intro c2
  refine au 8 ?_
  refine ah (.inl rfl) (.cons (ac rfl) .nil) ?_
  have hv : dp p c.cats = false := by first | exact c2 | simpa using c2
  rw [hv]
  exact ⟨_, ⟨rfl, rfl⟩, inferInstance⟩
 ·intro c2
  have hv : dp p c.cats = true := by first | exact c2 | simpa using c2
  rw [hv]
  refine au 8 ?_
  refine ai rfl ?_ ?_
  ·intro c4
   refine au 8 ?_
   refine ah (.inl rfl) (.cons (ac rfl) .nil) ?_
   rw [decide_eq_false (by omega)]
   exact ⟨_, ⟨rfl, rfl⟩, inferInstance⟩
  ·intro c4
   refine au 5 ?_
   refine ae rfl (aF lT rfl (ko W0 _ c q)) ?_
   rintro _ B_ ⟨rfl, hB_⟩
   obtain rfl := hB_.symm
   rw [hw]
   refine au 4 ?_
   refine ai rfl ?_ ?_
   ·intro c6
    refine au 8 ?_
    refine ah (.inl rfl) (.cons (ac rfl) .nil) ?_
    have hw0 : w = false := by first | exact c6 | simpa using c6
    rw [hw0, decide_eq_true (by omega)]
    exact ⟨_, ⟨rfl, rfl⟩, inferInstance⟩
   ·intro c6
    obtain rfl : w = true := by first | exact c6 | simpa using c6
    obtain ⟨hga, hqj, hj, u, rfl, hlu⟩ := hrw rfl
    rw [hlu, decide_eq_true (by omega : q ≠ -1)]
    have hne : ¬ q = -1 := by omega
    refine au 4 ?_
    refine bR [(b1, 0, bF c), (bx, 0, cM (p, q)), (gg, og + j * 3, dB u)] 18 bQ rfl (aC (aC (cm (hcv _) aB))) (fun hS => ?_)
    refine ab 0 rfl rfl rfl hS (ap rfl fB rfl ar rfl (by first | exact Nat.zero_add _ | rfl)) ?_
    refine ab 1 rfl rfl rfl hS (am aT rfl (by first | exact av (k := 0) rfl rfl | exact av (k := 1) rfl rfl | exact av (k := 2) rfl rfl | exact av (k := 3) rfl rfl)) ?_
    refine ab 2 rfl rfl rfl hS (ap rfl cG rfl fc rfl (by first | exact Nat.zero_add _ | rfl)) ?_
    refine ab 3 rfl rfl rfl hS (am fA rfl (by first | exact av (k := 0) rfl rfl | exact av (k := 1) rfl rfl | exact av (k := 2) rfl rfl | exact av (k := 3) rfl rfl)) ?_
    refine ab 4 rfl rfl rfl hS (ap rfl fB rfl ar rfl (by first | exact Nat.zero_add _ | rfl)) ?_
    refine ab 5 rfl rfl rfl hS (am aT rfl (by first | exact av (k := 0) rfl rfl | exact av (k := 1) rfl rfl | exact av (k := 2) rfl rfl | exact av (k := 3) rfl rfl)) ?_
    refine ab 6 rfl rfl rfl hS (di eC ei rfl hga rfl hqj hj (by first | exact Nat.zero_add _ | rfl)) ?_
    refine ab 7 rfl rfl rfl hS (ap rfl dC rfl ar rfl (by first | exact Nat.zero_add _ | rfl)) ?_
    refine ab 8 rfl rfl rfl hS (am aT rfl (f6 (k := 2) (j := 0) rfl rfl)) ?_
    refine ab 9 rfl rfl rfl hS (du rfl rfl) ?_
    refine ab 10 rfl rfl rfl hS (ag rfl) ?_
    refine je (t := 37) rfl ?_ ?_
    ·intro g8_11
     refine aV 11 rfl rfl rfl hS ?_
     refine aV 12 rfl rfl rfl hS ?_
     refine aV 13 rfl rfl rfl hS ?_
     refine aV 14 rfl rfl rfl hS ?_
     refine aV 15 rfl rfl rfl hS ?_
     refine ab 16 rfl rfl rfl hS (cV rfl rfl) ?_
     refine ab 17 rfl rfl rfl hS (ax rfl) ?_
     refine bz (by kernel_rfl) ?_; clear hS
     refine au 2 ?_
     refine ah (.inl rfl) (.cons (ac rfl) .nil) ?_
     refine ⟨_, ⟨?_, rfl⟩, inferInstance⟩
     refine congrArg Value.bool ?_
     rw [Bool.eq_iff_iff]
     simp_all
    ·intro g8_11
     refine ab 11 rfl rfl rfl hS (cj gC dM rfl (by first | exact cT (k := 0) rfl | exact cT (k := 1) rfl | exact cT (k := 2) rfl | exact cT (k := 3) rfl) rfl) ?_
     refine ab 12 rfl rfl rfl hS (ap rfl fB rfl ar rfl (by first | exact Nat.zero_add _ | rfl)) ?_
     refine ab 13 rfl rfl rfl hS (am aT rfl (by first | exact av (k := 0) rfl rfl | exact av (k := 1) rfl rfl | exact av (k := 2) rfl rfl | exact av (k := 3) rfl rfl)) ?_
     refine ab 14 rfl rfl rfl hS (ag rfl) ?_
     refine aW 15 (by kernel_rfl) rfl rfl (aF Tryz.call265 rfl (B5 W0 _ c q i hi hl hcap hs)) rfl ?_; clear hS
     rintro _ B_ ⟨rfl, hB_⟩
     obtain rfl := hB_.symm
     refine ⟨(aC (aC (cm (hcv _) aB))), fun hS => ?_⟩
     refine ab 16 rfl rfl rfl hS (d4 rfl rfl) ?_
     refine ab 17 rfl rfl rfl hS (ax rfl) ?_
     refine bz (by kernel_rfl) ?_; clear hS
     refine au 2 ?_
     refine ah (.inl rfl) (.cons (ac rfl) .nil) ?_
     refine ⟨_, ⟨?_, rfl⟩, inferInstance⟩
     refine congrArg Value.bool ?_
     rw [Bool.eq_iff_iff]
     simp_all
 ⟩
def gR (c : Cfg) : Bool := decide (8 < c.pl.length) || gx (iI c) c.pl.length
theorem B7 (W0 : World) (R : List HP) (c : Cfg) (hcap : c.pl.length ≤ c.pc) (hs : ∀ A, bT (bu W0 A) c.pa 2 cM c.pl) (hgs : ∀ A, bT (bu W0 A) c.ga 3 dB c.gl) :
  ao Tryz.prog W0 145 [.agg (bF c).toArray] R (fun v B => ∃ r, v = .tuple #[.int .i64 r, .bool (gR c)] ∧ B = R) := by
 refine aD Tryz.func145 Tryz.ntmps145 rfl rfl ?_
 refine au 2 ?_
 refine ae rfl (bw rfl) ?_
 rintro _ _ ⟨b1, rfl, rfl⟩
 refine au 13 ?_
 refine ai rfl ?_ ?_
 ·intro c1
  refine au 8 ?_
  refine ah (.inl rfl) (.cons (ac rfl) (.cons (ac rfl) .nil)) ?_
  rw [gR, decide_eq_true (by omega), Bool.true_or]
  exact ⟨_, ⟨0, rfl, rfl⟩, inferInstance⟩
 ·intro c1
  refine au 7 ?_
  refine aa rfl (i7 rfl rfl) ?_
  refine ae rfl (aM pD rfl (oy W0 _ 263 [.pointer (some ⟨b1, 0, none⟩)] c.pl.length b1 _ (iI c) (B6 W0 b1 c (by omega) hcap hs hgs) (by omega))) ?_
  rintro _ B_ ⟨r, rfl, hB_⟩
  obtain rfl := hB_.symm
  refine au 7 ?_
  refine ah (.inl rfl) (.cons (ac rfl) (.cons (ac rfl) .nil)) ?_
  rw [gR, decide_eq_false (by omega), Bool.false_or]
  exact ⟨_, ⟨r, rfl, rfl⟩, inferInstance⟩
structure CfOk (W0 : World) (c : Cfg) : Prop where
  g : ∀ A, bT (bu W0 A) c.ga 3 dB c.gl
  r : ∀ A, bT (bu W0 A) c.ra 3 dB c.rl
  p : ∀ A, bT (bu W0 A) c.pa 2 cM c.pl
  n : ∀ A, bT (bu W0 A) c.na 2 cM c.nl
  s : ∀ A, bT (bu W0 A) c.sa 2 cM c.sl
  pc : c.pl.length ≤ c.pc
def B8 (W0 : World) (c : Cfg) (C : HP) (l : List (Value × Int × Bool)) : Prop := ∀ x ∈ l, ∃ fn cs, x.1 = .func (.func fn) #[] cs.toArray ∧ (∀ args w, (callFunc fn args).run Tryz.prog w = .ok (.enter fn args) w) ∧
  ∀ R, ao Tryz.prog W0 fn ([] ++ [.agg (bF c).toArray] ++ cs) (kH 0 C :: R) (fun v B => ∃ r, v = .tuple #[.int .i64 r, .bool x.2.2] ∧ B = kH 0 C :: R)
def i9 : List (Value × Int × Bool) → Int
  | [] => 0
  | x :: t => if x.2.2 then x.2.1 else i9 t
theorem vB : ∀ (l : List (Value × Int × Bool)) (i : Nat) (hi : i < l.length), (∀ j (hj : j < l.length), j < i → l[j].2.2 = false) → l[i].2.2 = true → i9 l = l[i].2.1
 | x :: t, 0, _, _, h => by rw [i9, if_pos (by simpa using h)]; rfl
 | x :: t, i + 1, hi, h1, h2 => by
  have h0 := h1 0 (by simp) (by omega)
  rw [i9, if_neg (by simpa using h0), vB t i (by simpa using hi) (fun j hj hji => by
   have := h1 (j + 1) (by simpa using hj) (by omega)
   simpa using this) (by simpa using h2)]
  simp
theorem vC : ∀ (l : List (Value × Int × Bool)), (∀ j (hj : j < l.length), l[j].2.2 = false) → i9 l = 0
 | [], _ => rfl
 | x :: t, h => by
  have h0 := h 0 (by simp)
  rw [i9, if_neg (by simpa using h0), vC t (fun j hj => by
   have := h (j + 1) (by simpa using hj)
   simpa using this)]
def lj (x : Value × Int × Bool) : List Value := [x.1, .int .i64 x.2.1]
def e8 (c : Cfg) (bg : Nat) : List (Value × Int × Bool) := [(.func (.func 143) #[] #[], 13, f7 c), (.func (.func 144) #[] #[], 14, fV c), (.func (.func 145) #[] #[], 15, gR c), (.func (.func 146) #[] #[], 16, eI c), (.func (.func 147) #[] #[], 17, gP c), (.func (.func 142) #[] #[.pointer (some ⟨bg, 0, none⟩)], 18, fQ c)]
theorem B9 (W0 : World) (R : List HP) (bg : Nat) (x : Bool) (c : Cfg) : ao Tryz.prog W0 142 [.agg (bF c).toArray, .pointer (some ⟨bg, 0, none⟩)] (pt bg (aj [.bool x] 4) :: R) (fun v B => v = .tuple #[.int .i64 0, .bool x] ∧ B = pt bg (aj [.bool x] 4) :: R) := by
 refine aD Tryz.func142 Tryz.ntmps142 rfl rfl ?_
 refine au 2 ?_
 refine ae rfl (bw rfl) ?_
 rintro _ _ ⟨b2, rfl, rfl⟩
 refine au 5 ?_
 refine bR [(bg, 0, _)] 3 bQ rfl (aC aB) (fun hS => ?_)
 refine ab 0 rfl rfl rfl hS (am j6 rfl (av (k := 0) rfl rfl)) ?_
 refine ab 1 rfl rfl rfl hS (ax rfl) ?_
 refine ab 2 rfl rfl rfl hS (ax rfl) ?_
 refine bz (by kernel_rfl) ?_; clear hS
 refine au 2 ?_
 refine ah (.inl rfl) (.cons (ac rfl) (.cons (ac rfl) .nil)) ?_
 exact ⟨_, ⟨rfl, rfl⟩, inferInstance⟩
theorem Ba (W0 : World) (R : List HP) (x : Bool) : ao Tryz.prog W0 141 [.bool x] R (fun v B => ∃ bg, v = .func (.func 142) #[] #[.pointer (some ⟨bg, 0, none⟩)] ∧ B = pt bg (aj [.bool x] 4) :: R) := by
 refine aD Tryz.func141 Tryz.ntmps141 rfl rfl ?_
 refine au 2 ?_
 refine ae rfl (jv rfl rfl) ?_
 rintro _ _ ⟨bg, rfl, rfl⟩
 refine au 5 ?_
 refine aa rfl (i7 rfl rfl) ?_
 refine au 4 ?_
 refine ah (.inl rfl) (.cons (ac rfl) .nil) ?_
 exact ⟨_, ⟨bg, rfl, rfl⟩, inferInstance⟩
theorem Bb (W0 : World) (c : Cfg) (h : CfOk W0 c) (bg : Nat) : B8 W0 c (aX [pt bg (aj [.bool (fQ c)] 4)]) (e8 c bg) := by
 intro x hx
 simp only [e8, List.mem_cons, List.not_mem_nil, or_false] at hx
 rcases hx with rfl | rfl | rfl | rfl | rfl | rfl
 ·exact ⟨_, [], rfl, Tryz.call143, fun R => AC W0 _ c h.g⟩
 ·exact ⟨_, [], rfl, Tryz.call144, fun R => B4 W0 _ c h.r⟩
 ·exact ⟨_, [], rfl, Tryz.call145, fun R => B7 W0 _ c h.pc h.p h.g⟩
 ·exact ⟨_, [], rfl, Tryz.call146, fun R => AH W0 _ c h.n h.g⟩
 ·exact ⟨_, [], rfl, Tryz.call147, fun R => AE W0 _ c h.s⟩
 ·exact ⟨_, [.pointer (some ⟨bg, 0, none⟩)], rfl, Tryz.call142, fun R => l9 (iV (B9 W0 R bg (fQ c) c) fun v B hB => by
   obtain ⟨rfl, rfl⟩ := hB
   exact ⟨_, ⟨0, rfl, rfl⟩, inferInstance⟩)⟩
def fw (c : Cfg) : Int := if c.cats < 0 ∨ 8 < c.cats then 12 else if f7 c then 13 else if fV c then 14 else if gR c then 15 else if eI c then 16 else if gP c then 17 else if fQ c then 18 else if 32 < d9 c c.gl.length then 19 else 0
theorem Bc (c : Cfg) (bg : Nat) (h : ¬ (c.cats < 0 ∨ 8 < c.cats)) : fw c = if i9 (e8 c bg) = 0 ∧ 32 < d9 c c.gl.length then 19 else i9 (e8 c bg) := by
 rw [fw, if_neg h]
 simp only [e8, i9]
 generalize f7 c = a1; generalize fV c = a2; generalize gR c = a3; generalize eI c = a4; generalize gP c = a5; generalize fQ c = a6
 cases a1 <;> cases a2 <;> cases a3 <;> cases a4 <;> cases a5 <;> cases a6 <;> simp
theorem lm {w : Nat → Bool} {n i : Nat} (h : gx w n = false) (hi : i < n) : w i = false := by
 rw [← Bool.not_eq_true]; intro q
 rw [lh hi q] at h; cases h
theorem ln {c : Cfg} (h : f7 c = false) : 1 ≤ c.gl.length ∧ c.gl.length ≤ 4 ∧ ∀ g ∈ c.gl, dp g.1 c.cats = true ∧ 1 ≤ g.2.1 ∧ g.2.1 ≤ 8 ∧ 0 ≤ g.2.2 ∧ g.2.2 ≤ 8 - g.2.1 := by
 simp only [f7, Bool.or_eq_false_iff, decide_eq_false_iff_not] at h
 obtain ⟨h1, h2⟩ := h
 refine ⟨by omega, by omega, fun g hg => ?_⟩
 obtain ⟨i, hi, rfl⟩ := List.getElem_of_mem hg
 have := lm h2 hi
 rw [show c.gl.getD i (0, 0, 0) = c.gl[i] by simp [List.getD, hi]] at this
 exact mw.1 this
theorem rA {c : Cfg} (h : fV c = false) : c.rl.length ≤ 8 ∧ ∀ r ∈ c.rl, dp r.1 c.cats = true ∧ 0 ≤ r.2.1 ∧ 1 ≤ r.2.2 ∧ r.2.1 + r.2.2 ≤ 32 := by
 simp only [fV, Bool.or_eq_false_iff, decide_eq_false_iff_not] at h
 obtain ⟨h1, h2⟩ := h
 refine ⟨by omega, fun r hr => ?_⟩
 obtain ⟨i, hi, rfl⟩ := List.getElem_of_mem hr
 have := lm h2 hi
 rw [iH, show fT c i = c.rl[i] by simp [fT, List.getD, hi], Bool.not_eq_false', Bool.and_eq_true, decide_eq_true_iff] at this
 obtain ⟨q1, q2⟩ := this
 refine ⟨q1, ?_⟩
 unfold da at q2
 split at q2
 ·exact absurd q2 (by decide)
 ·omega
theorem oE (W0 : World) (R : List HP) (c : Cfg) (h : CfOk W0 c) :
  ao Tryz.prog W0 51 [.agg (bF c).toArray] R (fun v B => ∃ at_, v = .tuple #[.int .i64 (fw c), .int .i64 at_] ∧ B = R) := by
 refine d5 Tryz.func51 Tryz.ntmps51 rfl rfl ?_
 refine al (az (ae rfl (bw rfl) ?_))
 rintro _ _ ⟨b1, rfl, rfl⟩
 refine aa rfl (ax rfl) (aa rfl (ax rfl) (aw (ak (uU (al (az (aa rfl (ax rfl) (aw (ak (al (al (az ?_))))))))))))
 refine aa rfl (ap rfl cG rfl ar rfl (by first | exact Nat.zero_add _ | rfl)) ?_
 refine aa rfl (am aT rfl (aH rfl)) ?_
 refine aa rfl (eO rfl rfl) (aa rfl (ag rfl) ?_)
 refine aZ rfl rfl rfl ?_ ?_
 ·intro g2_4
  refine bK rfl rfl rfl rfl (bK rfl rfl rfl rfl (aa rfl (cV rfl rfl) (aw (ak (iT rfl (al (az (aa rfl (ax rfl) (aa rfl (ax rfl) (aw (ak (bY (cn (kl (ah (.inl rfl) (.cons (ac rfl) (.cons (ac rfl) .nil)) ?_)))))))))))))))
  have he : fw c = 12 := by rw [fw, if_pos (by omega)]
  rw [he]
  exact ⟨_, ⟨0, rfl, rfl⟩, inferInstance⟩
 ·intro g2_4
  refine aa rfl (ap rfl cG rfl ar rfl (by first | exact Nat.zero_add _ | rfl)) ?_
  refine aY rfl rfl (aa rfl (am aT rfl (aH rfl)) ?_)
  refine aY rfl rfl (aa rfl (iP rfl rfl) (aa rfl (d4 rfl rfl) (aw (ak ?_))))
  refine ai rfl ?_ ?_
  ·intro c2
   refine al (az (aa rfl (ax rfl) (aa rfl (ax rfl) (aw (ak (bY (cn (kl (ah (.inl rfl) (.cons (ac rfl) (.cons (ac rfl) .nil)) ?_)))))))))
   have he : fw c = 12 := by rw [fw, if_pos (by omega)]
   rw [he]
   exact ⟨_, ⟨0, rfl, rfl⟩, inferInstance⟩
  ·intro c2
   refine cy (ak (al (az (aa rfl (ax rfl) (aa rfl (ax rfl) (aw (ak (al (tG (ak ?_))))))))))
   refine gn (fun e : Int × Int => e.1 = i9 (e8 c 0) ∧ ¬ (c.cats < 0 ∨ 8 < c.cats)) (fun e => [(1, .pointer (some ⟨b1, 0, none⟩)), (5, .int .i64 e.2), (6, .int .i64 e.1)]) (fun _ => pt b1 (cJ c) :: R) ?_ ?_
   ·skip
    refine al (az (aa rfl (bI kK kL (aA iB (aA iC bH)) (aS rfl iB rfl rfl (Nat.le_of_ble_eq_true rfl) SetL.eq (aS rfl iC rfl rfl (Nat.le_of_ble_eq_true rfl) SetL.eq bG))) ?_))
    refine aa rfl (bI kK kL (aA iB (aA iC bH)) (aS rfl iB rfl rfl (Nat.le_of_ble_eq_true rfl) SetL.eq (aS rfl iC rfl rfl (Nat.le_of_ble_eq_true rfl) SetL.eq bG))) ?_
    refine aa rfl (bI kK kL (aA iB (aA iC bH)) (aS rfl iB rfl rfl (Nat.le_of_ble_eq_true rfl) SetL.eq (aS rfl iC rfl rfl (Nat.le_of_ble_eq_true rfl) SetL.eq bG))) ?_
    refine aa rfl (bI kK kL (aA iB (aA iC bH)) (aS rfl iB rfl rfl (Nat.le_of_ble_eq_true rfl) SetL.eq (aS rfl iC rfl rfl (Nat.le_of_ble_eq_true rfl) SetL.eq bG))) ?_
    refine aa rfl (bI kK kL (aA iB (aA iC bH)) (aS rfl iB rfl rfl (Nat.le_of_ble_eq_true rfl) SetL.eq (aS rfl iC rfl rfl (Nat.le_of_ble_eq_true rfl) SetL.eq bG))) ?_
    refine aa rfl (ag rfl) (aa rfl (iS gC dM rfl rfl) ?_)
    refine ae rfl (aF Tryz.call148 rfl (AF W0 _ c)) ?_
    rintro _ B_ ⟨rfl, hB_⟩
    obtain rfl := hB_.symm
    refine ae rfl (nT rfl Tryz.call141 rfl (Ba W0 _ (fQ c))) ?_
    rintro _ B_ ⟨bg, rfl, hB_⟩
    obtain rfl := hB_.symm
    refine aa rfl (bI kK kL (aA iB (aA iC bH)) (aS rfl iB rfl rfl (Nat.le_of_ble_eq_true rfl) SetL.eq (aS rfl iC rfl rfl (Nat.le_of_ble_eq_true rfl) SetL.eq bG))) ?_
    refine ae rfl (fF y4 tj kL rfl (eo rfl rfl (eo rfl rfl (eo rfl rfl (eo rfl rfl (eo rfl rfl (eo rfl rfl fD)))))) rfl (by decide) (by decide) (by decide)) ?_
    rintro _ _ ⟨bl, rfl, rfl⟩
    refine il (b := bl) (o' := aj ((e8 c bg).flatMap lj) 283) rfl ?_
    refine aa rfl (dU y4 rfl) (aa rfl (ag rfl) (aw (ak (dt ?_))))
    refine ce (fun i : Nat => i ≤ 6 ∧ ∀ j (hj : j < (e8 c bg).length), j < i → ((e8 c bg)[j]).2.2 = false) (fun i => [(1, .pointer (some ⟨b1, 0, none⟩)), (5, .int .i64 0), (6, .int .i64 0), (29, .slice (some ⟨bl, 0, none⟩) 6 6), (30, .int .i64 6), (31, .int .i64 i)]) (fun _ => pt bl (aj ((e8 c bg).flatMap lj) 283) :: pt b1 (cJ c) :: kH 0 (aX [pt bg (aj [.bool (fQ c)] 4)]) :: R) (fun i => 6 - i) 0 ?_ ?_ ?_ ?_
    ·exact ⟨Nat.zero_le _, fun j hj q => absurd q (Nat.not_lt_zero _)⟩
    ·repeat (first | exact aJ | refine aG rfl ?_)
    ·exact inferInstance
    ·intro i ⟨hi, hI⟩
     refine al (az (aa rfl (eO rfl rfl) (aw (ak (al ?_)))))
     refine ai rfl ?_ ?_
     ·intro c6
      refine cy (ak (al (dt (al ?_))))
      have hi1 : i < 6 := by omega
      have hlen : (e8 c bg).length = 6 := rfl
      have hil : i < (e8 c bg).length := by rw [hlen]; exact hi1
      have hok := Bb W0 c h bg (e8 c bg)[i] (List.getElem_mem hil)
      have hEq := vB (e8 c bg) i hil hI
      have hnx : (e8 c bg)[i].2.2 = false → ∀ j (hj : j < (e8 c bg).length), j < i + 1 → ((e8 c bg)[j]).2.2 = false := fun q j hj hji => by
       rcases Nat.lt_or_ge j i with q2 | q2
       ·exact hI j hj q2
       ·obtain rfl : j = i := by omega
        exact q
      have hcell : cp (bu W0 (pt bl (aj ((e8 c bg).flatMap lj) 283) :: pt b1 (cJ c) :: kH 0 (aX [pt bg (aj [.bool (fQ c)] 4)]) :: R)) bl (i * 2) (lj (e8 c bg)[i]) := by
       obtain ⟨b, off, e1, hc⟩ := jA (W0 := W0) (A := pt bl (aj ((e8 c bg).flatMap lj) 283) :: pt b1 (cJ c) :: kH 0 (aX [pt bg (aj [.bool (fQ c)] 4)]) :: R) (f := lj) (sz := 2) (xs := e8 c bg) (b := bl) (fun _ => rfl) rfl i (e8 c bg)[i] (by simp [hil])
       cases e1
       rwa [Nat.zero_add] at hc
      generalize hy : (e8 c bg)[i] = y at hok hEq hnx hcell
      obtain ⟨yv, ye, yb⟩ := y
      obtain ⟨fn, cs, rfl, hcall, hsp⟩ := hok
      dsimp only at hEq hnx hsp
      refine az ?_
      refine aa rfl (bM y4 tj rfl rfl rfl hi1 (by first | exact Nat.zero_add _ | rfl)) ?_
      refine aa rfl (cj Tryz.isAgg283 tj rfl hcell rfl) ?_
      refine ae rfl (cd kL) ?_
      rintro _ _ ⟨bx, rfl, rfl⟩
      refine b0 (bS tj rfl rfl rfl rfl rfl) ?_
      rintro _ _ rfl
      refine aw (ak (al (az ?_)))
      refine aa rfl (ap rfl kK rfl iB rfl (by first | exact Nat.zero_add _ | rfl)) ?_
      refine aa rfl (am Tryz.isAgg280 rfl (aH rfl)) ?_
      refine aa rfl (iS gC dM rfl rfl) ?_
      refine ae rfl (mc (us := []) (cs := cs) rfl hcall rfl (hsp _)) ?_
      rintro _ B_ ⟨r_, rfl, hB_⟩
      obtain rfl := hB_.symm
      refine aa rfl (ag rfl) (aa rfl (bZ rfl rfl) (aa rfl (bZ rfl rfl) (aa rfl (ax rfl) (aa rfl (ax rfl) (aw (ak (al (az (aa rfl (ag rfl) (aw (ak ?_)))))))))))
      refine ai rfl ?_ ?_
      ·intro c9
       refine al ?_
       refine bR [(bx, 0, _)] 5 bQ rfl (aC aB) (fun hS => ?_)
       refine ab 0 rfl rfl rfl hS (ag rfl) ?_
       refine ab 1 rfl rfl rfl hS (ap rfl kK rfl iC rfl (by first | exact Nat.zero_add _ | rfl)) ?_
       refine ab 2 rfl rfl rfl hS (am Tryz.isAgg51 rfl (av (k := 0) rfl rfl)) ?_
       refine ab 3 rfl rfl rfl hS (ax rfl) ?_
       refine ab 4 rfl rfl rfl hS (ax rfl) ?_
       refine bz (by kernel_rfl) ?_; clear hS
       refine ak (gJ (lY rfl (eV (eV (i3 (ak ?_))))))
       refine d8 (ye, r_) ?_ ?_ ?_
       ·exact ⟨(hEq c9).symm, by omega⟩
       ·repeat (first | exact aJ | refine aG rfl ?_)
       ·exact inferInstance
      ·intro c9
       refine cy (fY (ak (az ?_)))
       refine aa rfl (bj rfl rfl (by first | exact aK (by omega) | rfl)) ?_
       refine aa rfl (ag rfl) (aw (ak ?_))
       refine bU (i + 1) ?_ ?_ ?_ ?_
       ·exact ⟨by omega, hnx (by simpa using c9)⟩
       ·omega
       ·repeat (first | exact aJ | refine aG rfl ?_)
       ·exact inferInstance
     ·intro c6
      refine gJ (eV (eV (i3 (ak ?_))))
      refine d8 ((0 : Int), (0 : Int)) ?_ ?_ ?_
      ·obtain rfl : i = 6 := by omega
       exact ⟨(vC _ fun j hj => hI j hj (by have : (e8 c bg).length = 6 := rfl; omega)).symm, by omega⟩
      ·repeat (first | exact aJ | refine aG rfl ?_)
      ·exact inferInstance
   ·intro ⟨e, at_⟩ ⟨he, hcat⟩
    dsimp only at he ⊢
    have hce := Bc c 0 hcat
    rw [← he] at hce
    refine al (al (az (aa rfl (ag rfl) (aa rfl (dd rfl rfl) (aa rfl (ag rfl) ?_)))))
    refine bX rfl rfl rfl ?_ ?_
    ·intro g12_3
     have hall : i9 (e8 c 0) = 0 := by rw [← he]; exact g12_3
     have hgr : f7 c = false := by
      rw [← Bool.not_eq_true]; intro q; simp only [e8, i9, q, if_true] at hall; exact absurd hall (by decide)
     have hri : eI c = false := by
      rw [← Bool.not_eq_true]; intro q; simp only [e8, i9, q, if_true] at hall; split at hall <;> (try split at hall) <;> (try split at hall) <;> exact absurd hall (by decide)
     obtain ⟨k1, k2, k3⟩ := ln hgr
     have k4 : c.nl.length ≤ 4 := by
      simp only [eI, Bool.or_eq_false_iff, decide_eq_false_iff_not] at hri; omega
     refine aa rfl (iS gC dM rfl rfl) ?_
     refine aY rfl rfl ?_
     refine ae rfl (aF y5 rfl (rk W0 _ c h.g (fun g hg => (k3 g hg).2) k4 k2)) ?_
     rintro _ B_ ⟨rfl, hB_⟩
     obtain rfl := hB_.symm
     refine aY rfl rfl (aa rfl (iP rfl rfl) (aa rfl (cV rfl rfl) (aw (ak ?_))))
     refine ai rfl ?_ ?_
     ·intro c12
      refine al (az (aa rfl (ax rfl) (aa rfl (ax rfl) (aw (ak (bY (cn (kl (ah (.inl rfl) (.cons (ac rfl) (.cons (ac rfl) .nil)) ?_)))))))))
      rw [hce, if_pos (by omega)]
      exact ⟨_, ⟨0, rfl, rfl⟩, inferInstance⟩
     ·intro c12
      refine cy (ak (al (az (aa rfl (ag rfl) (aa rfl (ag rfl) (aa rfl (ax rfl) (aa rfl (ax rfl) (aw (ak (bY (kl (ah (.inl rfl) (.cons (ac rfl) (.cons (ac rfl) .nil)) ?_))))))))))))
      rw [hce, if_neg (by omega)]
      exact ⟨_, ⟨_, rfl, rfl⟩, inferInstance⟩
    ·intro g12_3
     refine bK rfl rfl rfl rfl (bK rfl rfl rfl rfl (aa rfl (d4 rfl rfl) (aw (ak (nI rfl (cy (ak (al (az (aa rfl (ag rfl) (aa rfl (ag rfl) (aa rfl (ax rfl) (aa rfl (ax rfl) (aw (ak (bY (kl (ah (.inl rfl) (.cons (ac rfl) (.cons (ac rfl) .nil)) ?_))))))))))))))))))
     rw [hce, if_neg (by omega)]
     exact ⟨_, ⟨_, rfl, rfl⟩, inferInstance⟩
def rt (c : Cfg) : Bool := decide (fw c = 0)
theorem rB (W0 : World) (R : List HP) (c : Cfg) (h : CfOk W0 c) :
  ao Tryz.prog W0 161 [.agg (bF c).toArray] R (fun v B => v = .bool (rt c) ∧ B = R) := by
 refine aD Tryz.func161 Tryz.ntmps161 rfl rfl ?_
 refine au 2 ?_
 refine ae rfl (bw rfl) ?_
 rintro _ _ ⟨b1, rfl, rfl⟩
 refine au 6 ?_
 refine ae rfl (aF tm rfl (oE W0 _ c h)) ?_
 rintro _ B_ ⟨at_, rfl, hB_⟩
 obtain rfl := hB_.symm
 refine au 15 ?_
 refine ah (.inl rfl) (.cons (ac rfl) .nil) ?_
 refine ⟨_, ⟨?_, rfl⟩, inferInstance⟩
 refine congrArg Value.bool ?_
 rw [Bool.eq_iff_iff, rt]; simp
theorem jG {c : Cfg} (h : rt c = true) : 0 ≤ c.cats ∧ c.cats ≤ 8 ∧ f7 c = false ∧ fV c = false ∧ gR c = false ∧ eI c = false ∧ gP c = false ∧ fQ c = false ∧ d9 c c.gl.length ≤ 32 := by
 have h := of_decide_eq_true h
 unfold fw at h
 split at h
 ·exact absurd h (by decide)
 rename_i q1
 repeat' split at h
 all_goals first | exact absurd h (by decide) | skip
 rename_i q2 q3 q4 q5 q6 q7 q8
 exact ⟨by omega, by omega, by simpa using q2, by simpa using q3, by simpa using q4, by simpa using q5, by simpa using q6, by simpa using q7, by omega⟩
section
variable {P : Program} {S : World → Prop} {W0 : World} {N : FSz} {e : bq} {A R : List HP} {t t' : TypeId} {x : Operand} {bs : List Nat} {a : Option Addr} {c n : Nat}
end
end
section
open Go.ChangeShapes Go.WideShapes Go.ChangeAt Go.RowKit
def ew (P : Program) (w : World) : Nat → TypeId → List Value → Prop
  | 0, _, _ => False
  | fuel + 1, t, cs =>
    match P.underlying t with
    | some .bool => ∃ b, cs = [.bool b]
    | some (.int k) => ∃ n, cs = [.int k n] ∧ (Lit.int k n).wf = true
    | some .string => ∃ s, cs = [.string s] ∧ s.size ≤ maxLen
    | some (.slice e) => cs = [.slice none 0 0] ∨ ∃ a len cap, cs = [.slice (some a) len cap] ∧ len ≤ cap ∧ cap ≤ maxLen ∧
        ∀ i, i < len → ∃ cs', w.cells? 0 (a.add (i * P.cellsOf e)) (P.cellsOf e) = some cs' ∧ ew P w fuel e cs'
    | some (.struct fs) => cs.length = P.cellsOf t ∧ ∀ f : Field, f ∈ fs.toList → ew P w fuel f.type ((cs.drop f.offset).take (P.cellsOf f.type))
    | some (.array n e) => cs.length = P.cellsOf t ∧ ∀ i, i < n → ew P w fuel e ((cs.drop (i * P.cellsOf e)).take (P.cellsOf e))
    | _ => True
section
variable {H : Type} {enc : TypeId × Value → H} {P : Program} {w W : World}
theorem oF {sp : Nat → Bool} : ∀ (fuel : Nat) (t : TypeId) (cs : List Value) (x : DataW H × List MemPlace), DataW.trod enc P w 0 sp true fuel t cs = some x → ew P w fuel t cs
 | 0, t, cs, x, h => by simp [DataW.trod] at h
 | fuel + 1, t, cs, x, h => by
  unfold ew
  cases hu : P.underlying t with
  | none => trivial
  | some d =>
   cases d with
   | bool =>
    simp only []
    unfold DataW.trod at h; simp only [hu] at h
    split at h <;> simp_all
   | int k =>
    simp only []
    obtain ⟨n, hc, _, hw⟩ := DataW.trod_int hu h
    exact ⟨n, hc, hw⟩
   | string =>
    simp only []
    unfold DataW.trod at h; simp only [hu] at h
    split at h <;> simp_all
   | slice e =>
    simp only []
    rcases DataW.trod_slice hu h with ⟨hc, _⟩ | ⟨a, len, cap, elems, rest, n, hf, hc, _, _, hl, hm, hle, hel, _⟩
    ·exact .inl hc
    ·refine .inr ⟨a, len, cap, hc, hl, hm, fun i hi => ?_⟩
     obtain rfl : fuel = n := by omega
     have h1 := hel i hi
     have h2 : elems[i]? = some elems[i] := by simp
     rw [h2] at h1
     cases hcs : w.cells? 0 (a.add (i * P.cellsOf e)) (P.cellsOf e) with
     | none => rw [hcs] at h1; cases h1
     | some cs' =>
      rw [hcs] at h1
      exact ⟨cs', rfl, oF fuel e cs' _ h1⟩
   | struct fs =>
    simp only []
    obtain ⟨xs, n, hf, _, hlen, hxs, hel⟩ := DataW.trod_struct hu h
    obtain rfl : fuel = n := by omega
    refine ⟨hlen, fun f hm => ?_⟩
    obtain ⟨i, hi, hfi⟩ := List.getElem_of_mem hm
    have h1 := hel i f (by simp at hi; simp [← hfi, hi])
    have h2 : xs[i]? = some (xs[i]'(by simp at hi; omega)) := by simp at hi; simp [hxs, hi]
    rw [h2] at h1
    exact oF fuel _ _ _ h1
   | array n e =>
    simp only []
    obtain ⟨xs, m, hf, _, hlen, hxs, hel⟩ := DataW.trod_array hu h
    obtain rfl : fuel = m := by omega
    refine ⟨hlen, fun i hi => ?_⟩
    have h1 := hel i hi
    have h2 : xs[i]? = some (xs[i]'(by omega)) := by simp [hxs, hi]
    rw [h2] at h1
    exact oF fuel _ _ _ h1
   | _ => trivial
def Ty (P : Program) (W : World) (t : TypeId) (v : Value) : Prop := (∃ (r : Reach) (b : Nat), Value.okWide P W r b t v) ∧ ∃ fuel, ew P W fuel t v.cells.toList
theorem Be {t : TypeId} {v : Value} {d : DataW H} {p : List MemPlace} {sp : Nat → Bool} {r : Reach} {b : Nat} (h : Value.okWide P W r b t v) (k : DataW.Trod enc P W 0 sp true t v d p) : Ty P W t v := by
 obtain ⟨fuel, hf⟩ := k
 exact ⟨⟨r, b, h⟩, fuel, oF fuel t _ _ hf⟩
variable {t : TypeId} {v : Value}
theorem fl {k : IntKind} {fuel : Nat} {cs : List Value} (hu : P.underlying t = some (.int k)) (h : ew P W fuel t cs) : ∃ n, cs = [.int k n] ∧ (Lit.int k n).wf = true := by
 cases fuel with
 | zero => exact h.elim
 | succ f => unfold ew at h; simpa only [hu] using h
theorem lp {fs : Array Field} {fuel : Nat} {cs : List Value} (hu : P.underlying t = some (.struct fs)) (h : ew P W fuel t cs) : cs.length = P.cellsOf t ∧ ∃ f', ∀ f : Field, f ∈ fs.toList → ew P W f' f.type ((cs.drop f.offset).take (P.cellsOf f.type)) := by
 cases fuel with
 | zero => exact h.elim
 | succ f => unfold ew at h; simp only [hu] at h; exact ⟨h.1, f, h.2⟩
theorem Bf {e : TypeId} {fuel : Nat} {cs : List Value} (hu : P.underlying t = some (.slice e)) (h : ew P W fuel t cs) : cs = [.slice none 0 0] ∨ ∃ a len cap, cs = [.slice (some a) len cap] ∧ len ≤ cap ∧ cap ≤ maxLen ∧
    ∃ f', ∀ i, i < len → ∃ cs', W.cells? 0 (a.add (i * P.cellsOf e)) (P.cellsOf e) = some cs' ∧ ew P W f' e cs' := by
 cases fuel with
 | zero => exact h.elim
 | succ f =>
  unfold ew at h; simp only [hu] at h
  rcases h with h | ⟨a, l, c, h1, h2, h3, h4⟩
  ·exact .inl h
  ·exact .inr ⟨a, l, c, h1, h2, h3, f, h4⟩
theorem Bg {k : IntKind} (hu : P.underlying t = some (.int k)) (h : Ty P W t v) : ∃ n, v = .int k n ∧ (Lit.int k n).wf = true := by
 obtain ⟨⟨r, b, h1⟩, fuel, h2⟩ := h
 obtain ⟨n, rfl⟩ := okWide_int hu h1
 obtain ⟨m, hm, hw⟩ := fl hu h2
 simp only [Value.cells, List.cons.injEq, Value.int.injEq, true_and, and_true] at hm
 subst hm; exact ⟨n, rfl, hw⟩
theorem Bh {fs : Array Field} (hu : P.underlying t = some (.struct fs)) (h : Ty P W t v) : ∃ l : List Value, v = .agg l.toArray ∧ ∃ fuel, ew P W fuel t l := by
 obtain ⟨⟨r, b, h1⟩, fuel, h2⟩ := h
 obtain ⟨cs, rfl, _⟩ := okWide_struct hu h1
 exact ⟨cs.toList, by simp, fuel, h2⟩
theorem vD {α : Type} {Q : Nat → α → Prop} : ∀ (n : Nat), (∀ i, i < n → ∃ x, Q i x) → ∃ l : List α, l.length = n ∧ ∀ i x, l[i]? = some x → Q i x
 | 0, _ => ⟨[], rfl, fun i x h => by simp at h⟩
 | n + 1, h => by
  obtain ⟨l, hl, hq⟩ := vD n (fun i hi => h i (by omega))
  obtain ⟨x, hx⟩ := h n (by omega)
  refine ⟨l ++ [x], by simp [hl], fun i y hy => ?_⟩
  by_cases hi : i < n
  ·rw [List.getElem?_append_left (by omega)] at hy; exact hq i y hy
  ·by_cases he : i = n
   ·subst he; subst hl; simp at hy; subst hy; exact hx
   ·rw [List.getElem?_eq_none (by simp; omega)] at hy; cases hy
theorem vE {α β : Type} {f : α → Option β} : ∀ {l : List α} {r : List β}, l.mapM f = some r → r.length = l.length ∧ ∀ (i : Nat) (x : α), l[i]? = some x → f x = r[i]?
 | [], r, h => by
  simp only [List.mapM_nil] at h
  obtain rfl : [] = r := Option.some.inj h
  exact ⟨rfl, fun i x hx => by simp at hx⟩
 | a :: l, r, h => by
  rw [List.mapM_cons] at h
  cases ha : f a with
  | none => simp [ha] at h
  | some y =>
   cases hl : l.mapM f with
   | none => simp [ha, hl] at h
   | some ys =>
    simp only [ha, hl, Option.bind_eq_bind, Option.bind_some, Option.pure_def, Option.some.injEq] at h
    subst h
    obtain ⟨h1, h2⟩ := vE hl
    refine ⟨by simp [h1], fun i x hx => ?_⟩
    cases i with
    | zero => simp only [List.getElem?_cons_zero, Option.some.injEq] at hx ⊢; subst hx; exact ha
    | succ i => simpa using h2 i x (by simpa using hx)
theorem vF {a : Addr} {n : Nat} {cs : List Value} (hn : 0 < n) (h : W.cells? 0 a n = some cs) : a.spot = none ∧ cs.length = n ∧ ∀ i v, cs[i]? = some v → W.cell? ⟨a.block, a.off + i, none⟩ = some v := by
 simp only [World.cells?, Nat.zero_le, if_true] at h
 obtain ⟨h1, h2⟩ := vE h
 simp only [List.length_range] at h1
 have hs : a.spot = none := by
  have h0 := h2 0 0 (by simp [hn])
  have : cs[0]? = some (cs[0]'(by omega)) := by simp [h1, hn]
  rw [this] at h0
  simp only [Addr.add, if_true] at h0
  unfold World.cell? at h0
  split at h0
  ·split at h0
   ·cases h0
   ·rename_i hk; simpa using hk
  ·cases h0
 refine ⟨hs, h1, fun i v hv => ?_⟩
 have hi : i < n := by
  rcases Nat.lt_or_ge i n with k | k
  ·exact k
  ·rw [List.getElem?_eq_none (by omega)] at hv; cases hv
 have h3 := h2 i i (by simp [hi])
 rw [hv] at h3
 obtain ⟨b, o, s⟩ := a
 simp only at hs
 subst hs
 rwa [f5] at h3
def vG {α : Type} (W : World) (a : Option Addr) (sz : Nat) (f : α → List Value) (xs : List α) : Prop :=
  ∀ i x, xs[i]? = some x → ∃ b off, a = some ⟨b, off, none⟩ ∧ ∀ A, cp (bu W A) b (off + i * sz) (f x)
theorem vH {α : Type} {f : α → List Value} {Q : α → Prop} : ∀ {rows : List (List Value)}, (∀ r ∈ rows, ∃ x, r = f x ∧ Q x) → ∃ xs : List α, rows = xs.map f ∧ ∀ x ∈ xs, Q x
 | [], _ => ⟨[], rfl, fun _ h => by simp at h⟩
 | r :: rows, h => by
  obtain ⟨x, rfl, hq⟩ := h r (by simp)
  obtain ⟨xs, rfl, hqs⟩ := vH (rows := rows) fun r hr => h r (by simp [hr])
  exact ⟨x :: xs, rfl, fun y hy => by
   rcases List.mem_cons.1 hy with rfl | hy
   ·exact hq
   ·exact hqs y hy⟩
theorem jH {α : Type} {l : List α} {n : Nat} (h : n + 1 = l.length) : ∃ a l', l = a :: l' ∧ n = l'.length := by
 cases l with
 | nil => cases h
 | cons a l => exact ⟨a, l, rfl, by simpa using h⟩
theorem vJ {α : Type} {l : List α} (h : 0 = l.length) : l = [] := List.length_eq_zero_iff.1 h.symm
theorem vK (hl : laidOutB P = true) {W' : World} (hb : Below W.heap.size W W') : ∀ (ts : List TypeId) (vs : List Value) (ds : List (DataW H)) (p : List MemPlace), (ts.all fun t => P.readableRec t && decide (t < P.types.size)) = true →
  DataW.TrodAll enc P W 0 (fun _ => true) true ts vs ds p → DataW.TrodAll enc P W' 0 (fun b => decide (b < W.heap.size)) true ts vs ds p
 | [], [], [], p, _, h => h
 | [], _ :: _, _, p, _, h => by cases h
 | [], [], _ :: _, p, _, h => by cases h
 | _ :: _, [], _, p, _, h => by cases h
 | _ :: _, _ :: _, [], p, _, h => by cases h
 | t :: ts, v :: vs, d :: ds, p, hr, h => by
  obtain ⟨q, q', h1, h2, rfl⟩ := h
  simp only [List.all_cons, Bool.and_eq_true, decide_eq_true_eq] at hr
  have lt : ∀ x ∈ q, x.block < W.heap.size := by obtain ⟨m, hm⟩ := h1; exact DataW.trod_lt m _ _ _ hm
  exact ⟨q, q', Below.trod hl hr.1.1 hr.1.2 h1 hb lt, vK hl hb ts vs ds q' hr.2 h2, rfl⟩
theorem vL {sp : Nat → Bool} {r : Reach} {b : Nat} : ∀ (ts : List TypeId) (vs : List Value) (ds : List (DataW H)) (p : List MemPlace), (∀ (j : Nat) t v, ts[j]? = some t → vs[j]? = some v → Value.okWide P W r b t v) →
  DataW.TrodAll enc P W 0 sp true ts vs ds p → ts.length = vs.length ∧ ts.length = ds.length ∧ ∀ (j : Nat) t v, ts[j]? = some t → vs[j]? = some v → Ty P W t v
 | [], [], [], p, _, h => ⟨rfl, rfl, fun j t v h => by simp at h⟩
 | [], _ :: _, _, p, _, h => by cases h
 | [], [], _ :: _, p, _, h => by cases h
 | _ :: _, [], _, p, _, h => by cases h
 | _ :: _, _ :: _, [], p, _, h => by cases h
 | t :: ts, v :: vs, d :: ds, p, hok, h => by
  obtain ⟨q, q', h1, h2, rfl⟩ := h
  obtain ⟨k1, k2, k3⟩ := vL ts vs ds q' (fun j t v ht hv => hok (j + 1) t v (by simpa using ht) (by simpa using hv)) h2
  refine ⟨by simp [k1], by simp [k2], fun j t' v' ht hv => ?_⟩
  cases j with
  | zero =>
   simp only [List.getElem?_cons_zero, Option.some.injEq] at ht hv
   subst ht; subst hv
   exact Be (hok 0 t v rfl rfl) h1
  | succ j => exact k3 j t' v' (by simpa using ht) (by simpa using hv)
end
end
section
open Go.ChangeShapes Go.WideShapes Go.ChangeAt Go.RowKit
set_option linter.unusedSimpArgs false
set_option linter.unusedVariables false
variable {P : Program} {w W : World} {t : TypeId} {v : Value}
theorem my {α : Type} {f : α → List Value} {Q : α → Prop} {e : TypeId} {fuel : Nat} {cs : List Value} (sz : Nat) (hu : P.underlying t = some (.slice e)) (hsz : P.cellsOf e = sz) (hc : 0 < sz) (hdec : ∀ fuel r, ew P W fuel e r → ∃ x, r = f x ∧ Q x) (h : ew P W fuel t cs) :
  ∃ a c xs, cs = [.slice a (List.length (α := α) xs) c] ∧ xs.length ≤ c ∧ c ≤ maxLen ∧ vG W a sz f xs ∧ ∀ x ∈ xs, Q x := by
 subst hsz
 rcases Bf hu h with rfl | ⟨a', n', c', rfl, hl, hm, f', hr⟩
 ·exact ⟨none, 0, [], rfl, by simp, by omega, fun i x hx => by simp at hx, fun x hx => by simp at hx⟩
 ·obtain ⟨rows, hlen, hq⟩ := vD n' hr
  obtain ⟨xs, rfl, hQ⟩ := vH (rows := rows) (f := f) (Q := Q) fun r hr => by
   obtain ⟨i, hi, rfl⟩ := List.getElem_of_mem hr
   exact hdec _ _ (hq i rows[i] (by simp)).2
  rw [List.length_map] at hlen
  subst hlen
  refine ⟨some a', c', xs, rfl, hl, hm, fun i x hx => ?_, hQ⟩
  obtain ⟨h4, _⟩ := hq i (f x) (by simp [hx])
  obtain ⟨hs, hlr, hcell⟩ := vF hc h4
  have hpos : 0 < xs.length := by
   rcases Nat.eq_zero_or_pos xs.length with q | q
   ·have := List.eq_nil_of_length_eq_zero q; subst this; simp at hx
   ·exact q
  obtain ⟨h5, _⟩ := hq 0 (f xs[0]) (by simp [hpos])
  obtain ⟨hs0, _⟩ := vF hc h5
  obtain ⟨b, o, s⟩ := a'
  simp only [Nat.zero_mul, Addr.add, if_true] at hs0
  subst hs0
  refine ⟨b, o, rfl, fun A j v hv => ?_⟩
  have := hcell j v hv
  rw [f5] at this
  exact tX this
theorem mz {α : Type} {W : World} {A : List HP} {a : Option Addr} {sz : Nat} {f : α → List Value} {xs : List α} (h : vG W a sz f xs) : bT (bu W A) a sz f xs := fun i x hi => by
 obtain ⟨b, off, rfl, hc⟩ := h i x hi
 exact ⟨b, off, rfl, hc A⟩
end
section
open Go.RowKit
structure Sec where
  at_ : Int
  d : ByteArray
instance : Inhabited Sec := ⟨⟨0, ByteArray.empty⟩⟩
structure Inp where
  at_ : Int
  g : Int
  k : Int
  code : Int
  d : ByteArray
instance : Inhabited Inp := ⟨⟨0, 0, 0, 0, ByteArray.empty⟩⟩
theorem Own.step {W0 w w' : World} {A C : List HP} (h : Own W0 w A) (k : Own w w' C) : Own W0 w' (C ++ A) := by
 obtain ⟨lA, sA, nA, mA⟩ := h.owns
 obtain ⟨lC, sC, nC, mC⟩ := k.owns
 have hlt : ∀ p ∈ lA, p.1 < w.heap.size := fun p hp => by
  have := (mA p hp).2
  rcases Nat.lt_or_ge p.1 w.heap.size with q | q
  ·exact q
  ·rw [Array.getElem?_eq_none q] at this; cases this
 refine ⟨k.os.trans h.os, k.tape.trans h.tape, k.output.trans h.output, Nat.le_trans h.size k.size, fun b hb => (k.base b (Nat.lt_of_lt_of_le hb h.size)).trans (h.base b hb), lC ++ lA, eU.append.2 ⟨lC, lA, rfl, sC, sA⟩, ?_, fun p hp => ?_⟩
 ·rw [List.map_append, List.nodup_append]
  refine ⟨nC, nA, fun x hx y hy e => ?_⟩
  obtain ⟨p, hp, rfl⟩ := List.mem_map.1 hx
  obtain ⟨q, hq, rfl⟩ := List.mem_map.1 hy
  have h1 := (mC p hp).1
  have h2 := hlt q hq
  omega
 ·rcases List.mem_append.1 hp with q | q
  ·exact ⟨Nat.le_trans h.size (mC p q).1, (mC p q).2⟩
  ·exact ⟨(mA p q).1, (k.base p.1 (hlt p q)).trans (mA p q).2⟩
theorem Bi {P : Program} {W0 : World} {f : FuncId} {args : List Value} {A : List HP} {Post : Value → List HP → Prop} (h : ∀ W, Own W0 W A → ao P W f args [] Post) : ao P W0 f args A (fun v B => ∃ C, Post v C ∧ B = C ++ A) := by
 intro w hO
 refine (h w hO w (Own.refl w)).mono ?_
 rintro e w' ⟨v, C, rfl, hp, hO'⟩
 exact ⟨v, C ++ A, rfl, ⟨C, hp, rfl⟩, hO.step hO'⟩
theorem Bj {W0 W : World} {A : List HP} {b off : Nat} {vs : List Value} (hO : Own W0 W A) (h : cp (bu W0 A) b off vs) : ∀ B, cp (bu W B) b off vs := fun B i v hi => tX (h i v hi W hO)
theorem mB {α : Type} {W0 W : World} {A : List HP} {a : Option Addr} {sz : Nat} {f : α → List Value} {xs : List α} (hO : Own W0 W A) (h : bT (bu W0 A) a sz f xs) : ∀ B, bT (bu W B) a sz f xs := fun B i x hi => by
 obtain ⟨b, off, rfl, hc⟩ := h i x hi
 exact ⟨b, off, rfl, Bj hO hc B⟩
abbrev mD := Int × Value × Nat
def Bl (p : mD) : MapEntry := { key := .int .i64 p.1, val := p.2.1, born := p.2.2 }
def rC (L : List mD) : Array MapEntry := (L.map Bl).toArray
def rD : List mD → Int → Option Value
  | [], _ => none
  | p :: l, k => if p.1 = k then some p.2.1 else rD l k
def kt (b : Nat) (f : Int → Option Value) : HP := chk (fun C => ∃ (L : List mD) (clock : Nat), (L.map (·.1)).Nodup ∧ (∀ k, rD L k = f k) ∧ C = [pt b (.map (rC L) clock)])
section
variable {rd : Option Nat} {P : Program} {S : World → Prop} {W0 : World} {N : FSz} {e : bq} {A B R : List HP}
variable {op : Op} {ty t K E : TypeId} {v z : Value} {b : Nat} {x y u : Operand} {f : Int → Option Value} {k : Int}
theorem Bm {L : List mD} {c : Nat} (h1 : (L.map (·.1)).Nodup) (h2 : ∀ k, rD L k = f k) : Ent (pt b (.map (rC L) c) :: R) (kt b f :: R) := eF (R := R) (C := [_]) ⟨L, c, h1, h2, rfl⟩
theorem Bn : cQ P W0 N e A (.makeMap t none) (fun v B => ∃ b, v = .map (some b) ∧ B = kt b (fun _ => none) :: A) := jV fun a w _ _ _ _ _ hF hO => by
 refine ⟨_, w.alloc (.map #[] 0), _, .inl ?_, ⟨w.heap.size, rfl, rfl⟩, ?_⟩
 ·simp [execOp, Instr.makeMap, newObj, Sem.run]
 ·have hn := hO.new (.map (rC []) 0)
  exact hn.ent (Bm (L := []) (by simp) (fun _ => rfl))
end
section
variable {P : Program} {S : World → Prop} {W0 : World} {N : FSz} {e : bq} {A R : List HP} {t t' ty : TypeId} {b off : Nat} {x y : Operand} {l l' : List Value}
theorem Bo {E n sz i h o' : Nat} {k k' : IntKind} {j1 j2 : Int} (hu : P.underlying t = some (.array n E)) (hs : ∀ w, (sizeOf E).run P w = .ok sz w) (hx : ev e x = some (.pointer (some ⟨b, off, none⟩))) {lo hi : Operand} (h1 : ev e lo = some (.int k j1)) (h2 : ev e hi = some (.int k' j2)) (e1 : j1 = (i : Int)) (e2 : j2 = (h : Int)) (hih : i ≤ h) (hhn : h ≤ n) (hin : i < n) (ho : off + i * sz = o') :
  bP P S N e (.slice t x (some lo) (some hi) none) (.slice (some ⟨b, o', none⟩) (h - i) (n - i)) := fun a w _ _ _ _ _ hF _ => by
 subst e1; subst e2; subst ho
 have hmi : ¬ n = i := by omega
 simp [execOp, Instr.sliceAt, hF.eval hx, hF.eval h1, hF.eval h2, dH hu, Instr.sureAddr, Instr.sliceBounds, jz hhn, jz hih, hs, hmi, f5]
theorem Bp {E n m c : Nat} {a : Option Addr} (hu : P.underlying t = some (.array n E)) (hx : ev e x = some (.slice a m c)) (hn : ¬ m < n) : bP P S N e (.sliceToArrayPointer t x) (.pointer a) := fun act w _ _ _ _ _ hF _ => by
 simp [execOp, hF.eval hx, Instr.arrayAt, dH hu, hn]
theorem Bq {S : World → Prop} {b off n j : Nat} {l vs : List Value} (h : cp S b off l) (hv : (l.drop j).take n = vs) : cp S b (off + j) vs := fun i v hi => by
 subst hv
 rw [List.getElem?_take] at hi
 split at hi
 ·rw [List.getElem?_drop] at hi
  rw [Nat.add_assoc]
  exact h (j + i) v hi
 ·cases hi
end
abbrev iu (ps pm d : Nat) : Obj := aj [.pointer (some ⟨ps, 0, none⟩), .pointer (some ⟨pm, 0, none⟩), .int .u32 (d : Nat)] 345
theorem Br (W0 : World) (R : List HP) (pv ps pm d : Nat) : ao Tryz.prog W0 238 [.pointer (some ⟨pv, 0, none⟩)] (pt pv (iu ps pm d) :: R) (fun v B => v = .bool false ∧ B = pt pv (iu ps pm d) :: R) := by
 refine aD Tryz.func238 Tryz.ntmps238 rfl rfl ?_
 refine au 10 ?_
 refine aZ rfl rfl rfl ?_ ?_
 ·intro g1_3
  cases g1_3
 ·intro g1_3
  refine au 14 ?_
  refine ah (.inl rfl) (.cons (ac rfl) .nil) ?_
  exact ⟨_, ⟨rfl, rfl⟩, inferInstance⟩
theorem Bs (W0 : World) (R : List HP) (ps pm : Nat) (fr : List bJ) (pg : List Pl) (h : Pgs pg) (h0 : 0 < fr.length) :
  ao Tryz.prog W0 79 [.pointer (some ⟨ps, 0, none⟩), .pointer (some ⟨pm, 0, none⟩)] (bn ps fr :: pt pm (df pg) :: R)
   (fun v B => ∃ b, v = .tuple #[.pointer (some ⟨b, 0, none⟩), .int .i64 0] ∧ B = pt b (iu ps pm 0) :: bn ps fr :: pt pm (df pg) :: R) := by
 refine aD Tryz.func79 Tryz.ntmps79 rfl rfl ?_
 refine au 10 ?_
 refine ae rfl (aM nj rfl (l5 W0 _ ps fr)) ?_
 rintro _ B_ ⟨rfl, hB_⟩
 obtain rfl := hB_.symm
 refine au 2 ?_
 refine aZ rfl rfl rfl ?_ ?_
 ·intro g1_4
  omega
 ·intro g1_4
  refine au 2 ?_
  refine ae rfl (aM Tryz.call190 rfl (zJ W0 _ pm pg h)) ?_
  rintro _ B_ ⟨rfl, hB_⟩
  obtain rfl := hB_.symm
  refine au 5 ?_
  refine ai rfl ?_ ?_
  ·intro c1
   exact absurd c1 (by decide)
  ·intro c1
   refine au 6 ?_
   refine aa rfl (bI Fu Tryz.zeroValue345 (aA iN (aA xF (aA cg bH))) (aS rfl iN rfl rfl (Nat.le_of_ble_eq_true rfl) SetL.eq (aS rfl xF rfl rfl (Nat.le_of_ble_eq_true rfl) SetL.eq bG))) ?_
   refine ae rfl (bw rfl) ?_
   rintro _ _ ⟨b1, rfl, rfl⟩
   refine au 5 ?_
   refine ah (.inl rfl) (.cons (ac rfl) (.cons (ac rfl) .nil)) ?_
   exact ⟨_, ⟨b1, rfl, rfl⟩, inferInstance⟩
theorem Bt (W0 : World) (R : List HP) (pv ps pm d : Nat) : ao Tryz.prog W0 107 [.pointer (some ⟨pv, 0, none⟩)] (pt pv (iu ps pm d) :: R) (fun v B => v = .pointer (some ⟨pm, 0, none⟩) ∧ B = pt pv (iu ps pm d) :: R) := by
 refine aD Tryz.func107 Tryz.ntmps107 rfl rfl ?_
 refine au 9 ?_
 refine ae rfl (aM Tryz.call238 rfl (Br W0 _ pv ps pm d)) ?_
 rintro _ B_ ⟨rfl, hB_⟩
 obtain rfl := hB_.symm
 refine au 2 ?_
 refine ai rfl ?_ ?_
 ·intro c1
  exact absurd c1 (by decide)
 ·intro c1
  refine au 12 ?_
  refine ah (.inl rfl) (.cons (ac rfl) .nil) ?_
  exact ⟨_, ⟨rfl, rfl⟩, inferInstance⟩
def Bu (len : Nat) (pg : List Pl) (n : Int) : Bool := dV pg n && decide (n < 8) && decide ((jh pg n).1 < len)
def vM (a : Nat) : Int := ((a / 64 : Nat) : Int)
def rE (len : Nat) (pg : List Pl) (pa n : Nat) : Prop := ∀ i, i < n → Bu len pg (vM (pa + i)) = true
instance {len : Nat} {pg : List Pl} {pa n : Nat} : Decidable (rE len pg pa n) := by unfold rE; exact Nat.decidableBallLT n _
def rF (len : Nat) (pg : List Pl) (pa : Nat) (n : Int) : Bool := decide (0 ≤ n ∧ pa ≤ 512 ∧ n ≤ 512 - (pa : Int)) && decide (rE len pg pa n.toNat)
def Bv (pg : List Pl) (a : Nat) : Int := (jh pg (vM a)).1
def Bw (fr : List bJ) (pg : List Pl) (a : Nat) : Nat := jg fr (Bv pg a) ((a % 64 : Nat) : Int) 1
def Bz (fr : List bJ) (pg : List Pl) (pa n : Nat) : List Nat := (List.range n).map fun i => Bw fr pg (pa + i)
def vN (d : Dsc) : Bool := decide (d.flags / 2 % 2 = 1)
def vP (d : Dsc) : Bool := decide (d.flags % 2 = 1)
def rG (r : Rg3) (at_ : Nat) : Nat := (r.desc + 16 * at_) % 4294967296
def lq (fr : List bJ) (pg : List Pl) (r : Rg3) (at_ : Nat) : Dsc := if rF fr.length pg (rG r at_) 16 then Ay (Bz fr pg (rG r at_) 16) else zD
def lk (fr : List bJ) (pg : List Pl) (r : Rg3) (at_ : Int) (n : Nat) (wr : Bool) : Dsc × Int :=
  if at_ < 0 ∨ r.n ≤ at_ then (zD, 1) else if r.n ≤ (n : Int) then (zD, 2) else
  if rF fr.length pg (rG r at_.toNat) 16 = false then (zD, 5) else
  if vg (lq fr pg r at_.toNat) r.n.toNat ≠ 0 then (zD, vg (lq fr pg r at_.toNat) r.n.toNat) else
  if rF fr.length pg (lq fr pg r at_.toNat).addr (lq fr pg r at_.toNat).len = false then (zD, 5) else
  if wr = true ∧ vN (lq fr pg r at_.toNat) = false then (zD, 6) else (lq fr pg r at_.toNat, 0)
abbrev vQ := Int × Bool × List Dsc
def vR (fr : List bJ) (pg : List Pl) (r : Rg3) (n : Nat) (x : vQ) : Dsc × Int := lk fr pg r x.1 n x.2.1
def rH (fr : List bJ) (pg : List Pl) (r : Rg3) (head : Int) : Nat → vQ
  | 0 => (head, false, [])
  | n + 1 => let d := (vR fr pg r n (rH fr pg r head n)).1; ((d.next : Int), vN d, (rH fr pg r head n).2.2 ++ [d])
abbrev oG (fr : List bJ) (pg : List Pl) (r : Rg3) (head : Int) (n : Nat) : Dsc × Int := vR fr pg r n (rH fr pg r head n)
def rI (fr : List bJ) (pg : List Pl) (r : Rg3) (head : Int) (n : Nat) : Prop := ∀ m, m < n → (oG fr pg r head m).2 = 0 ∧ vP (oG fr pg r head m).1 = true
theorem rI.succ {fr : List bJ} {pg : List Pl} {r : Rg3} {head : Int} {n : Nat} (h : rI fr pg r head n) (h1 : (oG fr pg r head n).2 = 0) (h2 : vP (oG fr pg r head n).1 = true) : rI fr pg r head (n + 1) := fun m hm => by
 rcases Nat.lt_or_ge m n with q | q
 ·exact h m q
 ·rw [show m = n by omega]; exact ⟨h1, h2⟩
section
variable {W0 : World} {N : FSz} {K : Act → World → Prop} {e : bq} {A R R1 R2 : List HP} {b n c : Nat} {l : List Dsc} {a : Option Addr} {ys : List Value}
end
def dL (p : Value × bJ) : HP := osl 5 1 p.1 (bL p.2)
def cq (qs : Nat) (fr : List bJ) : HP := chk (fun C => ∃ a c, ∃ vs : List Value, vs.length = fr.length ∧ C = pt qs (aj [.slice a fr.length c] 182) :: osl 148 1 (.slice a fr.length c) vs :: (vs.zip fr).map dL)
section
variable {P : Program} {W0 : World} {N : FSz} {K : Act → World → Prop} {e : bq} {A B R R1 R2 : List HP} {qs g n : Nat} {fr : List bJ} {f : FuncId} {args : List Value} {Post : Value → List HP → Prop} {l : List Value}
theorem ku [hk : Tk cq qs A fr R] (h : ∀ a c vs, vs.length = fr.length → aE W0 N K e (pt qs (aj [.slice a fr.length c] 182) :: osl 148 1 (.slice a fr.length c) vs :: ((vs.zip fr).map dL ++ R))) : aE W0 N K e A :=
 dP (r := cq) (b := qs) (iU fun C hC => by obtain ⟨a, c, vs, h1, rfl⟩ := hC; exact h a c vs h1)
theorem kv {a : Option Addr} {c : Nat} {vs : List Value} [h1 : Tk pt qs A (aj [.slice a n c] 182) R1] [h2 : Tk (osl 148 1) (.slice a n c) R1 vs ((vs.zip fr).map dL ++ R2)] (hv : vs.length = fr.length) (hn : n = fr.length) [k : Ent R2 B] : Ent A (cq qs fr :: B) := by
 subst hn
 have e1 : A.Perm ((pt qs (aj [.slice a fr.length c] 182) :: osl 148 1 (.slice a fr.length c) vs :: (vs.zip fr).map dL) ++ R2) := h1.perm.trans (h2.perm.cons _)
 have e2 : Ent ((pt qs (aj [.slice a fr.length c] 182) :: osl 148 1 (.slice a fr.length c) vs :: (vs.zip fr).map dL) ++ R2) (cq qs fr :: R2) := eF ⟨a, c, vs, hv, rfl⟩
 exact (Ent.ofPerm e1).trans (e2.trans (Ent.cons k))
theorem vS {α : Type} : ∀ (l : List α) (i : Nat) (h : i < l.length), l.Perm (l[i] :: l.eraseIdx i)
 | x :: l, 0, h => by simp
 | x :: l, i + 1, h => by
  simp only [List.getElem_cons_succ, List.eraseIdx_cons_succ]
  exact ((vS l i (by simpa using h)).cons x).trans (List.Perm.swap _ _ _)
theorem vT {α : Type} : ∀ (l : List α) (i : Nat) (x : α) (h : i < l.length), (x :: l.eraseIdx i).Perm (l.set i x)
 | y :: l, 0, x, h => by simp
 | y :: l, i + 1, x, h => by
  simp only [List.set_cons_succ, List.eraseIdx_cons_succ]
  exact (List.Perm.swap _ _ _).trans ((vT l i x (by simpa using h)).cons y)
theorem lr {E sz : Nat} {v : Value} {xs : List Value} [hk : Tk (osl E sz) v A xs R] (h0 : v = .slice none 0 0 → xs = [] → aE W0 N K e R)
  (h1 : ∀ g n cap sp, v = .slice (some ⟨g, 0, none⟩) n cap → n ≤ cap → cap ≤ maxLen → xs.length = n * sz → (xs ++ sp).length = cap * sz → aE W0 N K e (pt g (aj (xs ++ sp) E) :: R)) : aE W0 N K e A :=
 dP (r := osl E sz) (b := v) (gr h0 h1)
theorem rJ [hk : Tk cq qs A fr R] {i : Nat} (hi : i < fr.length) (h : ∀ a c vs vi, vs.length = fr.length → vs[i]? = some vi →
   aE W0 N K e (pt qs (aj [.slice a fr.length c] 182) :: osl 148 1 (.slice a fr.length c) vs :: osl 5 1 vi (bL (fr.getD i [])) :: (((vs.zip fr).map dL).eraseIdx i ++ R))) : aE W0 N K e A := by
 refine ku (qs := qs) fun a c vs hv => ?_
 have hlen : ((vs.zip fr).map dL).length = fr.length := by simp [hv]
 have hiv : i < vs.length := by omega
 have hg : ((vs.zip fr).map dL)[i]'(by omega) = osl 5 1 vs[i] (bL (fr.getD i [])) := by simp [dL, List.getD, hi]
 have hp := vS ((vs.zip fr).map dL) i (by omega)
 rw [hg] at hp
 exact pO (((hp.append_right R).cons _).cons _) (h a c vs vs[i] hv (by simp [hiv]))
theorem BA {a : Option Addr} {c i : Nat} {vs : List Value} {vi : Value} {y : bJ} {ys : List Value} {R3 : List HP} [h1 : Tk pt qs A (aj [.slice a n c] 182) R1] [h2 : Tk (osl 148 1) (.slice a n c) R1 (vs.set i vi) R2] [h3 : Tk (osl 5 1) vi R2 ys (((vs.zip fr).map dL).eraseIdx i ++ R3)]
  (hy : ys = bL y) (hv : vs.length = fr.length) (hn : n = fr.length) (hi : i < fr.length) [k : Ent R3 B] : Ent A (cq qs (fr.set i y) :: B) := by
 subst hy
 have e1 : A.Perm (pt qs (aj [.slice a n c] 182) :: osl 148 1 (.slice a n c) (vs.set i vi) :: ((((vs.set i vi).zip (fr.set i y)).map dL) ++ R3)) := by
  refine h1.perm.trans ((h2.perm.trans ((h3.perm.trans ?_).cons _)).cons _)
  have hs : ((vs.set i vi).zip (fr.set i y)).map dL = ((vs.zip fr).map dL).set i (dL (vi, y)) := by
   apply List.ext_getElem
   ·simp
   ·intro j h1 h2
    by_cases e : j = i
    ·subst e; simp
    ·have e' : ¬ i = j := fun h => e h.symm
     simp [List.getElem_set, e']
  rw [hs]
  have := vT ((vs.zip fr).map dL) i (dL (vi, y)) (by simp [hv]; exact hi)
  exact this.append_right R3
 exact (Ent.ofPerm e1).trans (kv (vs := vs.set i vi) (by simp [hv]) (by simp [hn]))
theorem rK {c i g2 n2 c2 : Nat} {vs vs' sp sp2 ys : List Value} {y : bJ} {vi : Value} {R3 : List HP} [h1 : Tk pt qs A (aj [.slice (some ⟨g, 0, none⟩) n c] 182) R1] [h2 : Tk pt g R1 (aj (vs' ++ sp) 148) R2] [h3 : Tk pt g2 R2 (aj (ys ++ sp2) 5) R3]
  (hvs : vs' = vs.set i vi) (hvi : vi = .slice (some ⟨g2, 0, none⟩) n2 c2) (hy : ys = bL y) (hv : vs.length = fr.length) (hn : n = fr.length) (hi : i < fr.length) (a1 : n ≤ c) (a2 : c ≤ maxLen) (a3 : (vs' ++ sp).length = c * 1) (b1 : n2 ≤ c2) (b2 : c2 ≤ maxLen) (b3 : ys.length = n2 * 1) (b4 : (ys ++ sp2).length = c2 * 1) [k : Ent R3 (((vs.zip fr).map dL).eraseIdx i ++ B)] : Ent A (cq qs (fr.set i y) :: B) := by
 subst hvs
 subst hvi
 have e1 : A.Perm (pt qs (aj [.slice (some ⟨g, 0, none⟩) n c] 182) :: pt g (aj (vs.set i (.slice (some ⟨g2, 0, none⟩) n2 c2) ++ sp) 148) :: pt g2 (aj (ys ++ sp2) 5) :: R3) := h1.perm.trans ((h2.perm.trans (h3.perm.cons _)).cons _)
 have e2 : Ent (pt g2 (aj (ys ++ sp2) 5) :: R3) (osl 5 1 (.slice (some ⟨g2, 0, none⟩) n2 c2) ys :: (((vs.zip fr).map dL).eraseIdx i ++ B)) := eP b1 b2 b3 b4
 have e3 : Ent (pt g (aj (vs.set i (.slice (some ⟨g2, 0, none⟩) n2 c2) ++ sp) 148) :: osl 5 1 (.slice (some ⟨g2, 0, none⟩) n2 c2) ys :: (((vs.zip fr).map dL).eraseIdx i ++ B)) (osl 148 1 (.slice (some ⟨g, 0, none⟩) n c) (vs.set i (.slice (some ⟨g2, 0, none⟩) n2 c2)) :: osl 5 1 (.slice (some ⟨g2, 0, none⟩) n2 c2) ys :: (((vs.zip fr).map dL).eraseIdx i ++ B)) := eP a1 a2 (by simp [hv, hn]) a3
 exact (Ent.ofPerm e1).trans ((Ent.cons ((Ent.cons e2).trans e3)).trans (BA (vi := .slice (some ⟨g2, 0, none⟩) n2 c2) hy hv hn hi))
end
theorem BB {fr : List bJ} {i : Nat} (hi : i < fr.length) : fr.set i (fr.getD i []) = fr := by
 rw [show fr.getD i [] = fr[i] by simp [List.getD, hi]]; exact List.set_getElem_self _
theorem BC {vs : List Value} {i : Nat} {v : Value} (h : vs[i]? = some v) : vs.set i v = vs := by
 have hi : i < vs.length := by
  rcases Nat.lt_or_ge i vs.length with k | k
  ·exact k
  ·rw [List.getElem?_eq_none k] at h; cases h
 have : vs[i] = v := by simpa [hi] using h
 rw [← this]; exact List.set_getElem_self _
theorem mF (W0 : World) (R : List HP) (qs : Nat) (fr : List bJ) (f : Int) :
  ao Tryz.prog W0 175 [.pointer (some ⟨qs, 0, none⟩), .int .i64 f] (cq qs fr :: R) (fun v B => v = .bool (d7 fr.length f) ∧ B = cq qs fr :: R) := by
 refine aD Tryz.func175 Tryz.ntmps175 rfl rfl ?_
 refine au 6 ?_
 refine ku (qs := qs) fun a c vs hv => ?_
 refine au 4 ?_
 refine bX rfl rfl rfl ?_ ?_
 ·intro g1_3
  refine au 18 ?_
  refine ah (.inl rfl) (.cons (ac rfl) .nil) ?_
  refine ⟨_, ⟨congrArg Value.bool ?_, rfl⟩, kv hv rfl⟩
  rw [Bool.eq_iff_iff]; simp only [d7, decide_eq_true_eq, Bool.false_eq_true, false_iff]; omega
 ·intro g1_3
  refine au 11 ?_
  refine ah (.inl rfl) (.cons (ac rfl) .nil) ?_
  refine ⟨_, ⟨congrArg Value.bool ?_, rfl⟩, kv hv rfl⟩
  rw [Bool.eq_iff_iff]; simp only [d7, decide_eq_true_eq, Bool.false_eq_true, false_iff]; omega
theorem BD {W0 : World} {R : List HP} {g off c n : Nat} {l : List Nat} {i k w : Nat} (hl : l.length = n) (hw : w < 4294967296) (hc : cp (bu W0 R) g off (bL l)) (hi : d6 n i k = true) (hn : n ≤ 1000000) :
  ao Tryz.prog W0 341 [.slice (some ⟨g, off, none⟩) n c, .int .i64 i, .int .i64 k, .int .u32 w] R (fun v B => ∃ a' c', v = nV a' n c' ∧ B = osl 5 1 (.slice a' n c') (bL (gt l i k w)) :: R) := by
 subst hl; exact zt W0 R g off c l i k w hw hc hi hn
theorem BE {x : bJ} {sp : List Value} (h : x.length = 64) : ((bL x ++ sp).drop 0).take 64 = bL x := by
 rw [List.drop_zero, List.take_left' (by rw [dA, h])]
theorem BF (W0 : World) (R : List HP) (qs : Nat) (fr : List bJ) (f off w : Int) (x : Nat) (hx : x < 4294967296) (hF : dJ fr) :
  ao Tryz.prog W0 292 [.pointer (some ⟨qs, 0, none⟩), .int .i64 f, .int .i64 off, .int .i64 w, .int .u32 x] (cq qs fr :: R)
   (fun v B => v = .int .i64 (if fH fr f off w then 0 else 1) ∧ B = cq qs (eG fr f off w x) :: R) := by
 by_cases hf : d7 fr.length f = true
 ·obtain ⟨i, rfl, hi⟩ := nW hf
  obtain ⟨hl, hb⟩ := hF.get hi
  by_cases hin : d6 64 off w = true
  ·obtain ⟨o, k, rfl, rfl, hk, hok⟩ := kd hin
   have hs : fH fr i o k = true := by simp [fH, hf, hin]
   have hpl : (gt (fr.getD i []) o k x).length = 64 := by rw [kc (by omega)]; exact hl
   refine d5 y8 Tryz.ntmps292 rfl rfl ?_
   refine al (az (aa rfl (ax rfl) (aw (ak (al (al (az (aa rfl (ag rfl) (aa rfl (ag rfl) (ae rfl (aM pF rfl (mF W0 _ qs fr i)) ?_))))))))))
   rintro _ B_ ⟨rfl, hB_⟩
   obtain rfl := hB_.symm
   refine aa rfl (fM rfl) (aw (ak ?_))
   refine ai rfl ?_ ?_
   ·intro c1
    exact absurd c1 (by simp [hf])
   ·intro c1
    refine cy (ak (al ?_))
    refine rJ (qs := qs) hi fun a c vs vi hv hvi => ?_
    refine lr (E := 5) (sz := 1) (v := vi) (fun h1 h2 => by have := congrArg List.length h2; rw [dA, hl] at this; cases this) fun g2 n2 c2 sp2 k1 k2 k3 k4 k5 => ?_
    obtain rfl : n2 = 64 := by rw [dA, hl] at k4; omega
    subst k1
    refine lr (E := 148) (sz := 1) (v := .slice a fr.length c) (fun h1 h2 => by have := (Value.slice.inj h1).2.1; omega) fun g n c' sp h1 h2 h3 h4 h5 => ?_
    cases h1
    refine az (aa rfl (ag rfl) (aa rfl (aU rfl) ?_))
    refine aa rfl (ap rfl jq rfl iA rfl (by first | exact Nat.zero_add _ | rfl)) ?_
    refine aa rfl (am kE rfl (aH rfl)) ?_
    refine aa rfl (ag rfl) ?_
    refine aa rfl (bM ja jS rfl rfl rfl hi (by first | exact Nat.zero_add _ | rfl)) ?_
    refine aa rfl (am Tryz.isAgg148 rfl (aH (by rw [Nat.mul_one, List.getElem?_append_left (by omega)]; exact hvi))) ?_
    refine aa rfl (ag rfl) (aa rfl (ag rfl) (aa rfl (ag rfl) ?_))
    refine ae rfl (aF Tryz.call341 rfl (BD hl hx (fp (BE hl) (by rw [dA, hl])) hin (by decide))) ?_
    rintro _ B_ ⟨a', c', rfl, hB_⟩
    obtain rfl := hB_.symm
    refine lr (E := 5) (sz := 1) (v := .slice a' 64 c') (fun h1 h2 => by have := (Value.slice.inj h1).2.1; omega) fun g3 n3 c3 sp3 q1 q2 q3 q4 q5 => ?_
    cases q1
    refine aa rfl (ag rfl) (aa rfl (bZ rfl rfl) (aa rfl (bZ rfl rfl) (aa rfl (ax rfl) (aa rfl (ax rfl) (aw (ak (al (al (az (aa rfl (ag rfl) (aa rfl (dd rfl rfl) (aw (ak ?_)))))))))))))
    refine ai rfl ?_ ?_
    ·intro c4
     refine az (aa rfl (ag rfl) (aa rfl (aU rfl) ?_))
     refine aa rfl (ap rfl jq rfl iA rfl (by first | exact Nat.zero_add _ | rfl)) ?_
     refine aa rfl (am kE rfl (aH rfl)) ?_
     refine aa rfl (ag rfl) (aa rfl (ag rfl) ?_)
     refine aa rfl (bM ja jS rfl rfl rfl hi (by first | exact Nat.zero_add _ | rfl)) ?_
     refine b0 (bN jS rfl rfl rfl (by rw [List.length_append]; omega) (by rw [Nat.mul_one, List.set_append_left _ _ (by omega)])) ?_
     rintro _ _ rfl
     refine aw (ak (al (az (aa rfl (ag rfl) (aa rfl (ax rfl) (aw (ak (bY (ah (.inl rfl) (.cons (ac rfl) .nil) ?_)))))))))
     rw [show eG fr i o k x = fr.set i (gt (fr.getD i []) o k x) by simp [eG, hs]]
     exact ⟨_, ⟨by simp [bW, hs], rfl⟩, rK (vs := vs) (vi := .slice (some ⟨g3, 0, none⟩) 64 c') rfl rfl rfl hv rfl hi h2 h3 (by rw [← h5]; simp) q2 q3 q4 q5⟩
    ·intro c4
     exact absurd rfl c4
  ·have hin' : d6 64 off w = false := by simpa using hin
   have hs : fH fr i off w = false := by simp [fH, hin']
   refine d5 y8 Tryz.ntmps292 rfl rfl ?_
   refine al (az (aa rfl (ax rfl) (aw (ak (al (al (az (aa rfl (ag rfl) (aa rfl (ag rfl) (ae rfl (aM pF rfl (mF W0 _ qs fr i)) ?_))))))))))
   rintro _ B_ ⟨rfl, hB_⟩
   obtain rfl := hB_.symm
   refine aa rfl (fM rfl) (aw (ak ?_))
   refine ai rfl ?_ ?_
   ·intro c1
    exact absurd c1 (by simp [hf])
   ·intro c1
    refine cy (ak (al ?_))
    refine rJ (qs := qs) hi fun a c vs vi hv hvi => ?_
    refine lr (E := 5) (sz := 1) (v := vi) (fun h1 h2 => by have := congrArg List.length h2; rw [dA, hl] at this; cases this) fun g2 n2 c2 sp2 k1 k2 k3 k4 k5 => ?_
    obtain rfl : n2 = 64 := by rw [dA, hl] at k4; omega
    subst k1
    refine lr (E := 148) (sz := 1) (v := .slice a fr.length c) (fun h1 h2 => by have := (Value.slice.inj h1).2.1; omega) fun g n c' sp h1 h2 h3 h4 h5 => ?_
    cases h1
    refine az (aa rfl (ag rfl) (aa rfl (aU rfl) ?_))
    refine aa rfl (ap rfl jq rfl iA rfl (by first | exact Nat.zero_add _ | rfl)) ?_
    refine aa rfl (am kE rfl (aH rfl)) ?_
    refine aa rfl (ag rfl) ?_
    refine aa rfl (bM ja jS rfl rfl rfl hi (by first | exact Nat.zero_add _ | rfl)) ?_
    refine aa rfl (am Tryz.isAgg148 rfl (aH (by rw [Nat.mul_one, List.getElem?_append_left (by omega)]; exact hvi))) ?_
    refine aa rfl (ag rfl) (aa rfl (ag rfl) (aa rfl (ag rfl) ?_))
    refine ae rfl (aF Tryz.call341 rfl (zu W0 _ _ 64 c2 off w x hin' (by decide))) ?_
    rintro _ B_ ⟨rfl, hB_⟩
    obtain rfl := hB_.symm
    refine aa rfl (ag rfl) (aa rfl (bZ rfl rfl) (aa rfl (bZ rfl rfl) (aa rfl (ax rfl) (aa rfl (ax rfl) (aw (ak (al (al (az (aa rfl (ag rfl) (aa rfl (dd rfl rfl) (aw (ak ?_)))))))))))))
    refine ai rfl ?_ ?_
    ·intro c4
     exact absurd c4 (by decide)
    ·intro c4
     refine cy (ak (al (az (aa rfl (ag rfl) (aa rfl (ax rfl) (aw (ak (bY (ah (.inl rfl) (.cons (ac rfl) .nil) ?_)))))))))
     rw [show eG fr i off w x = fr by simp [eG, hs]]
     refine ⟨_, ⟨by simp [bW, hs], rfl⟩, ?_⟩
     have e := BB hi
     conv => rhs; rw [← e]
     exact rK (vs := vs) (BC hvi).symm rfl rfl hv rfl hi h2 h3 h5 k2 k3 k4 k5
 ·have hf' : d7 fr.length f = false := by simpa using hf
  have hs : fH fr f off w = false := by simp [fH, hf']
  refine d5 y8 Tryz.ntmps292 rfl rfl ?_
  refine al (az (aa rfl (ax rfl) (aw (ak (al (al (az (aa rfl (ag rfl) (aa rfl (ag rfl) (ae rfl (aM pF rfl (mF W0 _ qs fr f)) ?_))))))))))
  rintro _ B_ ⟨rfl, hB_⟩
  obtain rfl := hB_.symm
  refine aa rfl (fM rfl) (aw (ak ?_))
  refine ai rfl ?_ ?_
  ·intro c1
   refine al (az (aa rfl (ax rfl) (aw (ak (bY (cn (ah (.inl rfl) (.cons (ac rfl) .nil) ?_)))))))
   rw [show eG fr f off w x = fr by simp [eG, hs]]
   exact ⟨_, ⟨by simp [bW, hs], rfl⟩, inferInstance⟩
  ·intro c1
   exact absurd c1 (by simp [hf'])
theorem rL {A B R1 R2 R3 : List HP} {qs n c g2 : Nat} {a : Option Addr} {vs ys : List Value} {vi : Value} {fr : List bJ} {y : bJ} [h1 : Tk pt qs A (aj [.slice a n c] 182) R1] [h2 : Tk (osl 148 1) (.slice a n c) R1 (vs ++ [vi]) R2] [h3 : Tk pt g2 R2 (aj ys 5) R3]
  (hvi : vi = .slice (some ⟨g2, 0, none⟩) 64 64) (hy : ys = bL y) (hl : y.length = 64) (hv : vs.length = fr.length) (hn : n = fr.length + 1) [k : Ent R3 ((vs.zip fr).map dL ++ B)] : Ent A (cq qs (fr ++ [y]) :: B) := by
 subst hvi; subst hy
 have e1 : A.Perm (pt qs (aj [.slice a n c] 182) :: osl 148 1 (.slice a n c) (vs ++ [.slice (some ⟨g2, 0, none⟩) 64 64]) :: pt g2 (aj (bL y ++ []) 5) :: R3) := by
  rw [List.append_nil]; exact h1.perm.trans ((h2.perm.trans (h3.perm.cons _)).cons _)
 have e2 : Ent (pt g2 (aj (bL y ++ []) 5) :: R3) (osl 5 1 (.slice (some ⟨g2, 0, none⟩) 64 64) (bL y) :: ((vs.zip fr).map dL ++ B)) := eP (Nat.le_refl _) (by simp only [maxLen]; omega) (by rw [dA, hl]) (by rw [List.append_nil, dA, hl])
 have e3 : ((vs ++ [Value.slice (some ⟨g2, 0, none⟩) 64 64]).zip (fr ++ [y])).map dL = (vs.zip fr).map dL ++ [osl 5 1 (.slice (some ⟨g2, 0, none⟩) 64 64) (bL y)] := by
  rw [List.zip_append hv, List.map_append]; rfl
 have e4 : (osl 5 1 (.slice (some ⟨g2, 0, none⟩) 64 64) (bL y) :: ((vs.zip fr).map dL ++ B)).Perm (((vs ++ [Value.slice (some ⟨g2, 0, none⟩) 64 64]).zip (fr ++ [y])).map dL ++ B) := by
  rw [e3, List.append_assoc]; exact List.perm_middle.symm
 exact (Ent.ofPerm e1).trans ((Ent.cons (Ent.cons (e2.trans (Ent.ofPerm e4)))).trans (kv (vs := vs ++ [.slice (some ⟨g2, 0, none⟩) 64 64]) (by simp [hv]) (by simp [hn])))
theorem BG (W0 : World) (R : List HP) (n : Nat) (h : n ≤ 32) :
  ao Tryz.prog W0 65 [.int .i64 n] R (fun v B => ∃ b, v = .tuple #[.pointer (some ⟨b, 0, none⟩), .int .i64 0] ∧ B = cq b (List.replicate n bi) :: R) := by
 refine aD Tryz.func65 Tryz.ntmps65 rfl rfl ?_
 refine au 12 ?_
 refine aZ rfl rfl rfl ?_ ?_
 ·intro g1_3
  omega
 ·intro g1_3
  refine au 6 ?_
  refine ai rfl ?_ ?_
  ·intro c1
   omega
  ·intro c1
   refine au 4 ?_
   refine aa rfl (bI jq Tryz.zeroValue182 (aA iA bH) bG) ?_
   refine ae rfl (bw rfl) ?_
   rintro _ _ ⟨b1, rfl, rfl⟩
   refine au 10 ?_
   refine ce (fun i : Nat => i ≤ n) (fun i => [(0, .int .i64 n), (4, .pointer (some ⟨b1, 0, none⟩)), (5, .int .i64 i)]) (fun i => cq b1 (List.replicate i bi) :: R) (fun i => n - i) 0 ?_ ?_ ?_ ?_
   ·exact Nat.zero_le _
   ·repeat (first | exact aJ | refine aG rfl ?_)
   ·exact (Ent.cons (fj (B := R))).trans (eF (R := R) (C := [_, _]) ⟨none, 0, [], rfl, rfl⟩)
   ·intro i hi
    refine au 8 ?_
    refine ai rfl ?_ ?_
    ·intro c5
     refine au 4 ?_
     refine ku (qs := b1) fun a c vs hv => ?_
     rw [List.length_replicate] at hv ⊢
     refine bR [] 11 bQ rfl aB (fun hS => ?_)
     refine ab 0 rfl rfl rfl hS (ag rfl) ?_
     refine ab 1 rfl rfl rfl hS (ag rfl) ?_
     refine ab 2 rfl rfl rfl hS (aU rfl) ?_
     refine ab 3 rfl rfl rfl hS (ap rfl jq rfl iA rfl (by first | exact Nat.zero_add _ | rfl)) ?_
     refine i6 (is := [4, 5]) (by kernel_rfl) rfl ⟨?_, ?_, trivial⟩
     ·skip
      refine ed rfl rfl (ec (am kE rfl (aH rfl))) rfl ?_; clear hS
      rintro _ _ ⟨rfl, rfl⟩
      refine ⟨aB, fun hS => ?_⟩
      refine aW 5 (by kernel_rfl) rfl rfl (mi (sz := 1) (by_ := 1) (info := Tryz.t5) gD (by kernel_rfl) rfl rfl rfl rfl (by decide) rfl rfl rfl rfl (by decide) (by decide)) rfl ?_; clear hS
      rintro _ _ ⟨b2, rfl, rfl⟩
      refine ⟨aB, fun hS => ?_⟩
      refine aW 6 (by kernel_rfl) rfl rfl (g6 ja jS y9 rfl rfl rfl rfl rfl (by decide) (by decide)) rfl ?_; clear hS
      rintro _ _ ⟨b3, rfl, rfl⟩
      refine ⟨aB, fun hS => ?_⟩
      refine aW 7 (by kernel_rfl) rfl rfl (dy (sz := 1) (by_ := 24) (info := Tryz.t148) ja (by kernel_rfl) rfl rfl rfl rfl (by decide) rfl rfl dz rfl rfl (by simp only [maxLen]; omega) (by omega)) rfl ?_; clear hS
      rintro _ B_ ⟨a1, c1, rfl, hB_⟩
      obtain rfl := hB_.symm
      refine ⟨aB, fun hS => ?_⟩
      refine ab 8 rfl rfl rfl hS (aU rfl) ?_
      refine ab 9 rfl rfl rfl hS (ap rfl jq rfl iA rfl (by first | exact Nat.zero_add _ | rfl)) ?_
      refine aW 10 (by kernel_rfl) rfl rfl (bN iA rfl rfl rfl (Nat.le_of_ble_eq_true rfl) SetL.eq) rfl ?_; clear hS
      rintro _ _ rfl
      refine ⟨aB, fun hS => ?_⟩
      refine bz (by kernel_rfl) ?_; clear hS
      refine au 4 ?_
      refine aa rfl (bj rfl rfl (by first | exact aK (by omega) | rfl)) ?_
      refine au 3 ?_
      refine bU (i + 1) ?_ ?_ ?_ ?_
      ·omega
      ·omega
      ·repeat (first | exact aJ | refine aG rfl ?_)
      ·rw [show List.replicate (i + 1) bi = List.replicate i bi ++ [bi] from List.replicate_succ']; exact rL (vs := vs) (n := i + 1) (a := a1) (c := c1) (g2 := b2) (ys := List.replicate (64 * 1) (.int .u8 0)) (y := bi) (vi := .slice (some ⟨b2, 0, none⟩) 64 64) (fr := List.replicate i bi) rfl rfl (by simp [bi]) (by simp [hv]) (by simp)
     ·skip
      refine ed rfl rfl (mi (sz := 1) (by_ := 1) (info := Tryz.t5) gD (by kernel_rfl) rfl rfl rfl rfl (by decide) rfl rfl rfl rfl (by decide) (by decide)) rfl ?_; clear hS
      rintro _ _ ⟨b2, rfl, rfl⟩
      refine ⟨aB, fun hS => ?_⟩
      refine i6 (is := [4, 6]) (by kernel_rfl) rfl ⟨?_, ?_, trivial⟩
      ·skip
       refine ed rfl rfl (ec (am kE rfl (aH rfl))) rfl ?_; clear hS
       rintro _ _ ⟨rfl, rfl⟩
       refine ⟨aB, fun hS => ?_⟩
       refine aW 6 (by kernel_rfl) rfl rfl (g6 ja jS y9 rfl rfl rfl rfl rfl (by decide) (by decide)) rfl ?_; clear hS
       rintro _ _ ⟨b3, rfl, rfl⟩
       refine ⟨aB, fun hS => ?_⟩
       refine aW 7 (by kernel_rfl) rfl rfl (dy (sz := 1) (by_ := 24) (info := Tryz.t148) ja (by kernel_rfl) rfl rfl rfl rfl (by decide) rfl rfl dz rfl rfl (by simp only [maxLen]; omega) (by omega)) rfl ?_; clear hS
       rintro _ B_ ⟨a1, c1, rfl, hB_⟩
       obtain rfl := hB_.symm
       refine ⟨aB, fun hS => ?_⟩
       refine ab 8 rfl rfl rfl hS (aU rfl) ?_
       refine ab 9 rfl rfl rfl hS (ap rfl jq rfl iA rfl (by first | exact Nat.zero_add _ | rfl)) ?_
       refine aW 10 (by kernel_rfl) rfl rfl (bN iA rfl rfl rfl (Nat.le_of_ble_eq_true rfl) SetL.eq) rfl ?_; clear hS
       rintro _ _ rfl
       refine ⟨aB, fun hS => ?_⟩
       refine bz (by kernel_rfl) ?_; clear hS
       refine au 4 ?_
       refine aa rfl (bj rfl rfl (by first | exact aK (by omega) | rfl)) ?_
       refine au 3 ?_
       refine bU (i + 1) ?_ ?_ ?_ ?_
       ·omega
       ·omega
       ·repeat (first | exact aJ | refine aG rfl ?_)
       ·rw [show List.replicate (i + 1) bi = List.replicate i bi ++ [bi] from List.replicate_succ']; exact rL (vs := vs) (n := i + 1) (a := a1) (c := c1) (g2 := b2) (ys := List.replicate (64 * 1) (.int .u8 0)) (y := bi) (vi := .slice (some ⟨b2, 0, none⟩) 64 64) (fr := List.replicate i bi) rfl rfl (by simp [bi]) (by simp [hv]) (by simp)
      ·skip
       refine ed rfl rfl (g6 ja jS y9 rfl rfl rfl rfl rfl (by decide) (by decide)) rfl ?_; clear hS
       rintro _ _ ⟨b3, rfl, rfl⟩
       refine ⟨aB, fun hS => ?_⟩
       refine aW 4 (by kernel_rfl) rfl rfl (ec (am kE rfl (aH rfl))) rfl ?_; clear hS
       rintro _ _ ⟨rfl, rfl⟩
       refine ⟨aB, fun hS => ?_⟩
       refine aW 7 (by kernel_rfl) rfl rfl (dy (sz := 1) (by_ := 24) (info := Tryz.t148) ja (by kernel_rfl) rfl rfl rfl rfl (by decide) rfl rfl dz rfl rfl (by simp only [maxLen]; omega) (by omega)) rfl ?_; clear hS
       rintro _ B_ ⟨a1, c1, rfl, hB_⟩
       obtain rfl := hB_.symm
       refine ⟨aB, fun hS => ?_⟩
       refine ab 8 rfl rfl rfl hS (aU rfl) ?_
       refine ab 9 rfl rfl rfl hS (ap rfl jq rfl iA rfl (by first | exact Nat.zero_add _ | rfl)) ?_
       refine aW 10 (by kernel_rfl) rfl rfl (bN iA rfl rfl rfl (Nat.le_of_ble_eq_true rfl) SetL.eq) rfl ?_; clear hS
       rintro _ _ rfl
       refine ⟨aB, fun hS => ?_⟩
       refine bz (by kernel_rfl) ?_; clear hS
       refine au 4 ?_
       refine aa rfl (bj rfl rfl (by first | exact aK (by omega) | rfl)) ?_
       refine au 3 ?_
       refine bU (i + 1) ?_ ?_ ?_ ?_
       ·omega
       ·omega
       ·repeat (first | exact aJ | refine aG rfl ?_)
       ·rw [show List.replicate (i + 1) bi = List.replicate i bi ++ [bi] from List.replicate_succ']; exact rL (vs := vs) (n := i + 1) (a := a1) (c := c1) (g2 := b2) (ys := List.replicate (64 * 1) (.int .u8 0)) (y := bi) (vi := .slice (some ⟨b2, 0, none⟩) 64 64) (fr := List.replicate i bi) rfl rfl (by simp [bi]) (by simp [hv]) (by simp)
    ·intro c5
     refine au 13 ?_
     refine ah (.inl rfl) (.cons (ac rfl) (.cons (ac rfl) .nil)) ?_
     have : i = n := by omega
     subst this
     exact ⟨_, ⟨b1, rfl, rfl⟩, inferInstance⟩
end
end Go.Proofs.YtoedafbckfgkjaaGreat
