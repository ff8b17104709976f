/-
  Part 5 of the proof of GuestOwn: rules, and walks of functions. Conditions: none.
-/
import Derived.Test.YtbhimdcapbflkaaGreatDoorGuestOwnD
namespace Go.Proofs.YtbhimdcapbflkaaGreatDoor
open Go.Proofs.Tryz
set_option linter.unusedSimpArgs false
set_option linter.unusedVariables false
set_option maxRecDepth 20000
set_option linter.defProp false
set_option synthInstance.maxSize 8192
set_option synthInstance.maxHeartbeats 2000000
variable {W0 : World} {R : List HP}
section
open Go.RowKit
theorem F4 (a : Nat) : IntKind.wrap .i32 a = iG a := rfl
section
variable (W0 : World) (R : List HP) (a b : Nat)
theorem a2h : sQ W0 453 [.agg #[wV a, wV b]] R (wV (u32 (a + b))) R := by
 refine am func453 ntmps453 ?_
 refine bB fun c => ?_
 refine aa (dh rfl rfl (d8 _)) ?_
 exact ac ao
theorem a2i : sQ W0 454 [.agg #[wV a, wV b]] R (wV (u32 (a - b))) R := by
 refine am func454 ntmps454 ?_
 refine bB fun c => ?_
 refine aa (l8 rfl rfl (d8 _)) ?_
 exact ac ao
theorem a2j (c : a < 4294967296) (d : b < 4294967296) : sQ W0 447 [.agg #[wV a, wV b]] R (wV (a &&& b)) R := by
 refine am func447 ntmps447 ?_
 refine bB fun e => ?_
 refine aa (eC rfl rfl (lh c d)) ?_
 exact ac ao
theorem a2k (c : a < 4294967296) (d : b < 4294967296) : sQ W0 448 [.agg #[wV a, wV b]] R (wV (a ||| b)) R := by
 refine am func448 ntmps448 ?_
 refine bB fun e => ?_
 refine aa (mo rfl rfl (mt c d)) ?_
 exact ac ao
theorem Lc : tZ .u32 a b = (u32 (tZ .u32 a b)) := by
 grind [tZ, d8, dJ, vX]
theorem a2l : sQ W0 449 [.agg #[wV a, wV b]] R (wV (u32 (tZ .u32 a b))) R := by
 refine am func449 ntmps449 ?_
 refine bB fun c => ?_
 refine aa (H1 rfl rfl (Lc a b)) ?_
 exact ac ao
theorem yA x n : ip .u32 x n = (u32 (ip .u32 x n)) := by
 grind [ip, d8, vX, dJ]
theorem a2m : sQ W0 450 [.agg #[wV a, wV b]] R (wV (u32 (ip .u32 a (b % 32 : Nat)))) R := by
 refine am func450 ntmps450 ?_
 refine bB fun c => ?_
 refine aa (dV rfl rfl (by decide) (iE b 32)) ?_
 refine aa (l9 rfl rfl (by omega) (yA _ _)) ?_
 exact ac ao
theorem a2n : sQ W0 451 [.agg #[wV a, wV b]] R (wV (a / 2 ^ (b % 32))) R := by
 have c : b % 32 ≤ (IntKind.bits .u32) := by
  have := Qcd b (show 0 < 32 by decide)
  show b % 32 ≤ 32
  omega
 refine am func451 ntmps451 ?_
 refine bB fun d => ?_
 refine aa (dV rfl rfl (by decide) (iE b 32)) ?_
 refine aa (j5 rfl rfl (by omega) (jU (k := .u32) (s := b % 32) c)) ?_
 exact ac ao
theorem a2o : sQ W0 452 [.agg #[wV a, wV b]] R (wV (u32 (jN .i32 (iG a) (b % 32 : Nat)))) R := by
 refine am func452 ntmps452 ?_
 refine bB fun c => ?_
 refine aa (bG (F4 a)) ?_
 refine aa (dV rfl rfl (by decide) (iE b 32)) ?_
 refine aa (j5 rfl rfl (by omega) rfl) ?_
 refine aa (bG (d8 _)) ?_
 exact ac ao
theorem a2p : sQ W0 455 [.agg #[wV a, wV b]] R (wV (u32 (a * b))) R := by
 refine am func455 ntmps455 ?_
 refine bB fun c => ?_
 refine aa (qg rfl rfl (d8 _)) ?_
 exact ac ao
theorem Ld x : sQ W0 458 [.bool x] R (wV (oS x)) R := by
 refine am func458 ntmps458 ?_
 refine ai (fun a => ?_) fun a => ?_
 rw [show oS x = 1 by rw [a]; rfl]
 exact ac ao
 rw [show oS x = 0 by rw [show x = false by simpa using a]; rfl]
 exact ac ao
theorem Le : sQ W0 428 [.agg #[wV a, wV b]] R (wV (oS (decide (iG a < iG b)))) R := by
 refine am func428 ntmps428 ?_
 refine bB fun c => ?_
 refine aa (bG (F4 a)) ?_
 refine aa (bG (F4 b)) ?_
 refine ah (aB call458 (Ld W0 _ (decide (iG a < iG b)))) ?_
 exact ac ao
theorem yB : (decide (a < (b : Int))) = decide (a < b) := by
 grind
theorem Lf : sQ W0 429 [.agg #[wV a, wV b]] R (wV (oS (decide (a < b)))) R := by
 rw [← yB]
 refine am func429 ntmps429 ?_
 refine eH (kg rfl) fun d => ?_
 refine ae rfl (bC rfl) (aL (aH (aO (aY ?_))))
 refine ae rfl (d5 rfl tU rfl aX rfl (by first | exact Qac _ | rfl)) ?_
 refine ae rfl (co pZ rfl (aI rfl)) ?_
 refine ae rfl (d5 rfl tU rfl aX rfl (by first | exact Qac _ | rfl)) ?_
 refine ae rfl (co pZ rfl (aI rfl)) ?_
 refine ae rfl (nh rfl rfl) (aF rfl (iz call458 rfl (Ld W0 _ (decide ((a : Int) < (b : Int))))) ?_)
 rintro _ e ⟨rfl, c⟩
 obtain rfl := c.symm
 refine ae rfl (bC rfl) (aL (aH (dE ?_)))
 exact ac ao
theorem a2q (d : a < 4294967296) : sQ W0 456 [.agg #[wV a, wV b]] R (wV (if b = 0 then 4294967295 else a / b)) R := by
 have e : a / b < 4294967296 := QaI (QbQ _ _) d
 refine am func456 ntmps456 ?_
 refine eH (kg rfl) fun g => ?_
 refine ae rfl (bC rfl) (aL (aH (aO (aO (aY ?_)))))
 refine ae rfl (d5 rfl tU rfl aX rfl (by first | exact Qac _ | rfl)) ?_
 refine ae rfl (co pZ rfl (aI rfl)) ?_
 refine ae rfl (iq rfl rfl) (aL (aH ?_))
 refine aC rfl (fun f => ?_) fun f => ?_
 refine au 7 ?_
 refine ac ?_
 rw [Qad (by omega)]
 exact ao
 refine aw ?_
 have c : b ≠ 0 := by omega
 rw [Qaa c]
 refine aa (ng rfl rfl (by omega) (by rw [qq]; exact cZ ⟨Int.natCast_nonneg _, Int.ofNat_lt.2 e⟩ : IntKind.wrap .u32 (Int.tdiv (a : Int) (b : Int)) = ((a / b : Nat) : Int))) ?_
 exact ac ao
theorem a2r (e : a < 4294967296) : sQ W0 457 [.agg #[wV a, wV b]] R (wV (if b = 0 then a else a % b)) R := by
 refine am func457 ntmps457 ?_
 refine eH (kg rfl) fun f => ?_
 refine ae rfl (bC rfl) (aL (aH (aO (aO (aY ?_)))))
 refine ae rfl (d5 rfl tU rfl aX rfl (by first | exact Qac _ | rfl)) ?_
 refine ae rfl (co pZ rfl (aI rfl)) ?_
 refine ae rfl (iq rfl rfl) (aL (aH ?_))
 refine aC rfl (fun d => ?_) fun d => ?_
 refine au 9 ?_
 refine ac ?_
 rw [Qad (by omega)]
 exact ao
 refine aw ?_
 have c : b ≠ 0 := by omega
 rw [Qaa c]
 refine aa (dV rfl rfl (by omega) (iE a b)) ?_
 exact ac ao
def F5 (f : FuncId) (op : Nat) : Prop := (∀ args w, (callFunc f args).run Tryz.prog w = .ok (.enter f args) w) ∧ ∀ R, bF Tryz.prog W0 f ([] ++ [.agg #[wV a, wV b]] ++ []) R (fun v B => v = wV (kC op a b) ∧ B = R)
theorem ot {f op n} (d : ∀ c w, (callFunc f c).run Tryz.prog w = .ok (.enter f c) w) (e : kC op a b = n) (h : ∀ R, bF Tryz.prog W0 f [.agg #[wV a, wV b]] R (fun v B => v = wV n ∧ B = R)) : F5 W0 a b f op := ⟨d, by rw [e]; exact h⟩
theorem a2s (c : Nat) (h : 3 ≤ c ∧ c ≤ 8) (e : a < 4294967296) (g : b < 4294967296) : sP W0 426 [iQ c] R (fun v B => ∃ f, v = .func (.func f) #[] #[] ∧ B = R ∧ F5 W0 a b f c) := by
 refine am func426 ntmps426 ?_
 refine ai (fun i => ?_) fun i => ?_
 refine ac ?_
 obtain rfl : c = 3 := by omega
 exact ⟨_, ⟨_, rfl, rfl, ot W0 a b call447 rfl fun R => a2j W0 R a b e g⟩, IO⟩
 refine ai (fun j => ?_) fun j => ?_
 refine ac ?_
 obtain rfl : c = 4 := by omega
 exact ⟨_, ⟨_, rfl, rfl, ot W0 a b call448 rfl fun R => a2k W0 R a b e g⟩, IO⟩
 refine ai (fun k => ?_) fun k => ?_
 refine ac ?_
 obtain rfl : c = 5 := by omega
 exact ⟨_, ⟨_, rfl, rfl, ot W0 a b call449 rfl fun R => a2l W0 R a b⟩, IO⟩
 refine ai (fun l => ?_) fun l => ?_
 refine ac ?_
 obtain rfl : c = 6 := by omega
 exact ⟨_, ⟨_, rfl, rfl, ot W0 a b call450 rfl fun R => a2m W0 R a b⟩, IO⟩
 refine ai (fun d => ?_) fun d => ?_
 refine ac ?_
 obtain rfl : c = 7 := by omega
 exact ⟨_, ⟨_, rfl, rfl, ot W0 a b call451 rfl fun R => a2n W0 R a b⟩, IO⟩
 refine ac ?_
 obtain rfl : c = 8 := by omega
 exact ⟨_, ⟨_, rfl, rfl, ot W0 a b call452 rfl fun R => a2o W0 R a b⟩, IO⟩
theorem Lg (c : Nat) (h : 1 ≤ c ∧ c ≤ 13 ∧ (c < 3 ∨ 8 < c)) (g : a < 4294967296) : sP W0 427 [iQ c] R (fun v B => ∃ f, v = .func (.func f) #[] #[] ∧ B = R ∧ F5 W0 a b f c) := by
 refine am func427 ntmps427 ?_
 refine ai (fun i => ?_) fun i => ?_
 refine ac ?_
 obtain rfl : c = 1 := by omega
 exact ⟨_, ⟨_, rfl, rfl, ot W0 a b call453 rfl fun R => a2h W0 R a b⟩, IO⟩
 refine ai (fun j => ?_) fun j => ?_
 refine ac ?_
 obtain rfl : c = 2 := by omega
 exact ⟨_, ⟨_, rfl, rfl, ot W0 a b call454 rfl fun R => a2i W0 R a b⟩, IO⟩
 refine ai (fun k => ?_) fun k => ?_
 refine ac ?_
 obtain rfl : c = 9 := by omega
 exact ⟨_, ⟨_, rfl, rfl, ot W0 a b call428 rfl fun R => Le W0 R a b⟩, IO⟩
 refine ai (fun l => ?_) fun l => ?_
 refine ac ?_
 obtain rfl : c = 10 := by omega
 exact ⟨_, ⟨_, rfl, rfl, ot W0 a b call429 rfl fun R => Lf W0 R a b⟩, IO⟩
 refine ai (fun d => ?_) fun d => ?_
 refine ac ?_
 obtain rfl : c = 11 := by omega
 exact ⟨_, ⟨_, rfl, rfl, ot W0 a b call455 rfl fun R => a2p W0 R a b⟩, IO⟩
 refine ai (fun e => ?_) fun e => ?_
 refine ac ?_
 obtain rfl : c = 12 := by omega
 exact ⟨_, ⟨_, rfl, rfl, ot W0 a b call456 rfl fun R => a2q W0 R a b g⟩, IO⟩
 refine ac ?_
 obtain rfl : c = 13 := by omega
 exact ⟨_, ⟨_, rfl, rfl, ot W0 a b call457 rfl fun R => a2r W0 R a b g⟩, IO⟩
theorem Lh (e : Nat) (h : 1 ≤ e ∧ e ≤ 13) (j : a < 4294967296) (k : b < 4294967296) : sQ W0 385 [iQ e, wV a, wV b] R (.tuple #[wV (kC e a b), iQ 0]) R := by
 refine am func385 ntmps385 ?_
 refine aC rfl (fun l => ?_) fun l => ?_
 omega
 refine aw ?_
 refine aC rfl (fun m => ?_) fun m => ?_
 omega
 refine aw ?_
 refine bN (fun g => ?_) fun g => ?_
 refine ai (fun n => ?_) fun n => ?_
 refine aF rfl (aB call426 (a2s W0 _ a b e (by omega) j k)) ?_
 rintro _ i ⟨f, rfl, c, d⟩
 obtain rfl := c.symm
 refine ae rfl (aM rfl) (ae rfl (aM rfl) (ae rfl (fT tU Cw (aP aX (aP aX fR)) (cu rfl aX rfl rfl (Qab rfl) SetL.eq (cu rfl aX rfl rfl (Qab rfl) SetL.eq fQ))) ?_))
 refine aF rfl (jm (us := []) (cs := []) rfl d.1 rfl (d.2 _)) ?_
 rintro _ i ⟨rfl, c⟩
 obtain rfl := c.symm
 refine ae rfl (bC rfl) (ae rfl (bC rfl) (aL (aH (dE (mn (iP ?_))))))
 exact ax ao
 refine aF rfl (aB call427 (Lg W0 _ a b e (by omega) j)) ?_
 rintro _ i ⟨f, rfl, c, d⟩
 obtain rfl := c.symm
 refine ae rfl (aM rfl) (ae rfl (aM rfl) (ae rfl (fT tU Cw (aP aX (aP aX fR)) (cu rfl aX rfl rfl (Qab rfl) SetL.eq (cu rfl aX rfl rfl (Qab rfl) SetL.eq fQ))) ?_))
 refine aF rfl (jm (us := []) (cs := []) rfl d.1 rfl (d.2 _)) ?_
 rintro _ i ⟨rfl, c⟩
 obtain rfl := c.symm
 refine ae rfl (bC rfl) (ae rfl (bC rfl) (aL (aH (dE ?_))))
 exact ax ao
 refine aF rfl (aB call427 (Lg W0 _ a b e (by omega) j)) ?_
 rintro _ i ⟨f, rfl, c, d⟩
 obtain rfl := c.symm
 refine ae rfl (aM rfl) (ae rfl (aM rfl) (ae rfl (fT tU Cw (aP aX (aP aX fR)) (cu rfl aX rfl rfl (Qab rfl) SetL.eq (cu rfl aX rfl rfl (Qab rfl) SetL.eq fQ))) ?_))
 refine aF rfl (jm (us := []) (cs := []) rfl d.1 rfl (d.2 _)) ?_
 rintro _ i ⟨rfl, c⟩
 obtain rfl := c.symm
 refine ae rfl (bC rfl) (ae rfl (bC rfl) (aL (aH (dE ?_))))
 exact ax ao
theorem Lj p : (((oS p) : Int) == 1) = p := by cases p <;> rfl
theorem F6 : (a == (b : Int)) = decide (a = b) := by
 grind
theorem Lk : (a != (b : Int)) = decide (a ≠ b) := by
 grind
theorem a2t (c : Nat) (h : 28 ≤ c ∧ c ≤ 31) : sQ W0 392 [iQ c, wV a, wV b] R (.tuple #[.bool (uu c a b), iQ 0]) R := by
 refine lG func392 ntmps392 rfl rfl ?_
 refine aO (aY (ae rfl (bC rfl) (ae rfl (bC rfl) (aL (aH (aO (aY (ae rfl (aM rfl) (ae rfl (aM rfl) (ae rfl (fT tU Cw (aP aX (aP aX fR)) (cu rfl aX rfl rfl (Qab rfl) SetL.eq (cu rfl aX rfl rfl (Qab rfl) SetL.eq fQ))) ?_))))))))))
 refine aF rfl (di Cw) ?_
 rintro _ _ ⟨k, rfl, rfl⟩
 refine ar aA ?_
 refine aC rfl (fun e => ?_) fun e => ?_
 refine aO ?_
 refine aY (ae rfl (aM rfl) (ae rfl (aM rfl) (ae rfl (iq rfl rfl) (ae rfl (bC rfl) (ae rfl (bC rfl) (aL (aH (dE (mn (iP (bU (.inl rfl) (.cons (aR rfl) (.cons (aR rfl) .nil)) ?_)))))))))))
 obtain rfl : c = 28 := by omega
 exact ⟨_, ⟨by rw [F6]; rfl, rfl⟩, IO⟩
 refine aw ?_
 refine aC rfl (fun f => ?_) fun f => ?_
 refine aO ?_
 refine aY (ae rfl (aM rfl) (ae rfl (aM rfl) (ae rfl (oJ rfl rfl) (ae rfl (bC rfl) (ae rfl (bC rfl) (aL (aH (dE (mn (iP (bU (.inl rfl) (.cons (aR rfl) (.cons (aR rfl) .nil)) ?_)))))))))))
 obtain rfl : c = 29 := by omega
 exact ⟨_, ⟨by rw [Lk]; rfl, rfl⟩, IO⟩
 refine aw ?_
 refine ai (fun g => ?_) fun g => ?_
 refine aF rfl (iz call428 rfl (Le W0 _ a b)) ?_
 rintro _ i ⟨rfl, d⟩
 obtain rfl := d.symm
 refine ae rfl (iq rfl rfl) (ae rfl (bC rfl) (ae rfl (bC rfl) (aL (aH (dE (mn (iP (bU (.inl rfl) (.cons (aR rfl) (.cons (aR rfl) .nil)) ?_))))))))
 obtain rfl : c = 30 := by omega
 exact ⟨_, ⟨by rw [Lj]; rfl, rfl⟩, IO⟩
 refine aC rfl (fun j => ?_) fun j => ?_
 refine au 3 ?_
 refine aF rfl (iz call429 rfl (Lf W0 _ a b)) ?_
 rintro _ i ⟨rfl, d⟩
 obtain rfl := d.symm
 refine ae rfl (iq rfl rfl) (ae rfl (bC rfl) (ae rfl (bC rfl) (aL (aH (dE (mn (iP (bU (.inl rfl) (.cons (aR rfl) (.cons (aR rfl) .nil)) ?_))))))))
 obtain rfl : c = 31 := by omega
 exact ⟨_, ⟨by rw [Lj]; rfl, rfl⟩, IO⟩
 omega
theorem a2u (op : Nat) (h : 14 ≤ op ∧ op ≤ 21) : sQ W0 389 [iQ op] R (.tuple #[iQ (i5 op), .bool true]) R := by
 refine am func389 ntmps389 ?_
 refine ai (fun c => ?_) fun c => ?_
 refine ax ?_
 obtain rfl : op = 14 := by omega
 exact ao
 refine ai (fun d => ?_) fun d => ?_
 refine ax ?_
 obtain rfl : op = 21 := by omega
 exact ao
 refine ai (fun e => ?_) fun e => ?_
 refine aa gz ?_
 refine aa (dh rfl rfl (by rw [cj (by omega), i5, Qaa (by omega), Qaa (by omega)]; omega : IntKind.wrap .i64 (((op : Int) - 15) + 3) = ((i5 op : Nat) : Int))) ?_
 exact ax ao
 refine ai (fun f => ?_) fun f => ?_
 refine aa gz ?_
 refine aa (dh rfl rfl (by rw [cj (by omega), i5, Qaa (by omega), Qaa (by omega)]; omega : IntKind.wrap .i64 (((op : Int) - 15) + 3) = ((i5 op : Nat) : Int))) ?_
 exact ax ao
 refine ai (fun g => ?_) fun g => ?_
 refine aa gz ?_
 refine aa (dh rfl rfl (by rw [cj (by omega), i5, Qaa (by omega), Qaa (by omega)]; omega : IntKind.wrap .i64 (((op : Int) - 15) + 3) = ((i5 op : Nat) : Int))) ?_
 exact ax ao
 refine ai (fun i => ?_) fun i => ?_
 refine aa gz ?_
 refine aa (dh rfl rfl (by rw [cj (by omega), i5, Qaa (by omega), Qaa (by omega)]; omega : IntKind.wrap .i64 (((op : Int) - 15) + 3) = ((i5 op : Nat) : Int))) ?_
 exact ax ao
 refine ai (fun a => ?_) fun a => ?_
 refine aa gz ?_
 refine aa (dh rfl rfl (by rw [cj (by omega), i5, Qaa (by omega), Qaa (by omega)]; omega : IntKind.wrap .i64 (((op : Int) - 15) + 3) = ((i5 op : Nat) : Int))) ?_
 exact ax ao
 refine aC rfl (fun b => ?_) fun b => ?_
 refine au 3 ?_
 refine aa gz ?_
 refine aa (dh rfl rfl (by rw [cj (by omega), i5, Qaa (by omega), Qaa (by omega)]; omega : IntKind.wrap .i64 (((op : Int) - 15) + 3) = ((i5 op : Nat) : Int))) ?_
 exact ax ao
 omega
theorem a2v im : sQ W0 390 [iQ im] R (wV (uv im)) R := by
 refine am func390 ntmps390 ?_
 refine aa (bG (d8 im)) ?_
 refine aa (l9 rfl rfl (by decide) (yA _ _)) ?_
 exact ac ao
end
@[reducible] def fH (i : Ins) : List Value := [.int .i64 i.op, .int .i64 i.d, .int .i64 i.a, .int .i64 i.b, .int .i64 i.im]
def kX : List Value := xF.map fun n => .int .i64 ((n : Nat) : Int)
section
variable {W0 : World}
theorem Ll {R} (hH : ∀ A, bE (aQ W0 A) 0 0 kX) {op} (h : op < 42) : kf (aQ W0 R) 0 (op * 1) (iQ (fX op)) := by
 have a : op < xF.length := h
 have := hH R op (iQ ((fX op : Nat) : Int)) (by
   unfold kX
   rw [QcN, QaV a]
   simp [fX, List.getD, a])
 rw [Qac] at this
 rw [Qaz]
 exact this
theorem a2w {W0 R} (a : Nat) : sQ W0 335 [iQ a] R (.bool (o9 a)) R := by
 refine am func335 ntmps335 ?_
 refine bN (fun b => ?_) fun b => ?_
 rw [show o9 a = decide ((a : Int) ≤ 41) by unfold o9; apply QaA.2; omega]
 exact ac ao
 rw [show o9 a = false by unfold o9; apply Qal; omega]
 exact ac ao
theorem F7 {W0 R} may (n : Nat) : sQ W0 336 [.bool may, iQ n] R (.bool (gU may n)) R := by
 cases may with
 | false =>
  refine am func336 ntmps336 ?_
  refine aC rfl ?_ ?_
  intro b
  refine aw ?_
  refine ac ?_
  exact ⟨_, ⟨Qah Value.bool (F6 n 0), rfl⟩, IO⟩
  intro b
  exact absurd (by decide) b
 | true =>
  refine jz 12 func336 ntmps336 ?_
  refine jT ?_
  refine iT rfl rfl rfl (fun a => ?_) fun a => ?_
  refine au 8 ?_
  refine ac ?_
  exact ⟨_, ⟨Qah Value.bool (yB n 16), rfl⟩, IO⟩
  omega
theorem a2x : ∀ n, n < 16 → e6 .i64 (n : Nat) 8 = (n / 8 % 2 * 8 : Nat) := by decide +kernel
theorem a2y : ∀ n, n < 16 → e6 .i64 (n : Nat) 1 = (n % 2 : Nat) := by decide +kernel
theorem a2z : ∀ n, n < 16 → e6 .i64 (n : Nat) 2 = (n / 2 % 2 * 2 : Nat) := by decide +kernel
theorem a2A : ∀ n, n < 16 → e6 .i64 (n : Nat) 4 = (n / 4 % 2 * 4 : Nat) := by decide +kernel
theorem a2B n : (((n / 2 % 2 * 2 : Nat) : Int) != 0) = (n / 2 % 2 != 0) := by
 grind
theorem a2C n : (((n / 4 % 2 * 4 : Nat) : Int) != 0) = (n / 4 % 2 != 0) := by
 grind
theorem Lm : ∀ a, a < 42 → fX a < 16 := by decide +kernel
theorem a2D {W0 R} (hH : ∀ A, bE (aQ W0 A) 0 0 kX) (op : Nat) (h : op < 42) n : sQ W0 337 [iQ op, iQ n] R (.bool (dx op n)) R := by
 have d := Lm op h
 have e := Ll (R := R) hH h
 refine am func337 ntmps337 ?_
 refine ai (fun f => ?_) fun f => ?_
 refine bN (fun a => ?_) fun a => ?_
 rw [show dx op n = decide (n ≤ 31) by rw [dx, Qad (by omega)]; apply QaA.2; omega]
 exact ac ao
 rw [show dx op n = false by rw [dx, Qad (by omega)]; apply Qal; omega]
 exact ac ao
 refine ai (fun g => ?_) fun g => ?_
 refine bN (fun a => ?_) fun a => ?_
 rw [show dx op n = decide (n ≤ 31) by rw [dx, Qad (by omega)]; apply QaA.2; omega]
 exact ac ao
 rw [show dx op n = false by rw [dx, Qad (by omega)]; apply Qal; omega]
 exact ac ao
 refine ai (fun i => ?_) fun i => ?_
 refine bN (fun a => ?_) fun a => ?_
 rw [show dx op n = decide (n ≤ 31) by rw [dx, Qad (by omega)]; apply QaA.2; omega]
 exact ac ao
 rw [show dx op n = false by rw [dx, Qad (by omega)]; apply Qal; omega]
 exact ac ao
 refine ai (fun j => ?_) fun j => ?_
 refine bN (fun b => ?_) fun b => ?_
 rw [show dx op n = decide (n < 9) by rw [dx, Qaa (by omega), Qad (by omega)]; apply QaA.2; omega]
 exact ac ao
 rw [show dx op n = false by rw [dx, Qaa (by omega), Qad (by omega)]; apply Qal; omega]
 exact ac ao
 refine ai (fun k => ?_) fun k => ?_
 refine bN (fun b => ?_) fun b => ?_
 rw [show dx op n = decide (n < 9) by rw [dx, Qaa (by omega), Qad (by omega)]; apply QaA.2; omega]
 exact ac ao
 rw [show dx op n = false by rw [dx, Qaa (by omega), Qad (by omega)]; apply Qal; omega]
 exact ac ao
 refine aa (eG h) ?_
 refine aa (aE e) ?_
 refine aa (eC rfl rfl (a2x _ d)) ?_
 refine ai (fun l => ?_) fun l => ?_
 refine ac ?_
 rw [dx, Qaa (by omega), Qaa (by omega), Qad (by omega)]
 exact ⟨_, ⟨Qah Value.bool (by grind), rfl⟩, IO⟩
 refine bN (fun c => ?_) fun c => ?_
 rw [show dx op n = decide (n ≤ 8191) by rw [dx, Qaa (by omega), Qaa (by omega), Qaa (by omega)]; apply QaA.2; omega]
 exact ac ao
 rw [show dx op n = false by rw [dx, Qaa (by omega), Qaa (by omega), Qaa (by omega)]; apply Qal; omega]
 exact ac ao
theorem Bn {W0 R} (hH : ∀ A, bE (aQ W0 A) 0 0 kX) i : sQ W0 285 [.agg (fH i).toArray] R (.bool (gG i)) R := by
 obtain ⟨x, B⟩ : ∃ x, fX i.op = x := ⟨_, rfl⟩
 obtain ⟨q, r⟩ : ∃ p, (fX i.op % 2 != 0) = p := ⟨_, rfl⟩
 obtain ⟨s, t⟩ : ∃ p, (fX i.op / 2 % 2 != 0) = p := ⟨_, rfl⟩
 obtain ⟨u, v⟩ : ∃ p, (fX i.op / 4 % 2 != 0) = p := ⟨_, rfl⟩
 obtain ⟨e, w⟩ : ∃ p, gU q i.d = p := ⟨_, rfl⟩
 obtain ⟨h, y⟩ : ∃ p, gU s i.a = p := ⟨_, rfl⟩
 obtain ⟨k, z⟩ : ∃ p, gU u i.b = p := ⟨_, rfl⟩
 have f : gG i = (o9 i.op && e && h && k && dx i.op i.im) := by
  grind [gG]
 rw [f]
 refine am func285 ntmps285 ?_
 refine bB fun C => ?_
 refine ah (aB call335 (a2w i.op)) ?_
 refine ai (fun n => ?_) fun n => ?_
 refine ac ?_
 rw [show o9 i.op = false by simpa using n]
 exact ao
 have o : o9 i.op = true := by grind
 have D := Qar o
 have c : i.op < 42 := by omega
 have l := Lm i.op c
 rw [o, Qbe]
 refine aa (eG c) ?_
 refine aa (aE (Ll hH c)) ?_
 refine aa (eC rfl rfl (a2y _ l)) ?_
 refine ah (aB O8 (F7 _ i.d)) ?_
 rw [yw, r, w]
 refine ai (fun g => ?_) fun g => ?_
 refine ac ?_
 rw [show e = false by simpa using g]
 exact ao
 refine aa (eC rfl rfl (a2z _ l)) ?_
 refine ah (aB O8 (F7 _ i.a)) ?_
 rw [a2B, t, y]
 refine ai (fun j => ?_) fun j => ?_
 refine ac ?_
 rw [show e = true by simpa using g, show h = false by simpa using j]
 exact ao
 refine aa (eC rfl rfl (a2A _ l)) ?_
 refine ah (aB O8 (F7 _ i.b)) ?_
 rw [a2C, v, z]
 refine ai (fun m => ?_) fun m => ?_
 refine ac ?_
 rw [show e = true by simpa using g, show h = true by simpa using j, show k = false by simpa using m]
 exact ao
 refine ah (aB call337 (a2D hH i.op c i.im)) ?_
 refine ac ?_
 rw [show e = true by simpa using g, show h = true by simpa using j, show k = true by simpa using m]
 exact ao
theorem Bo {W0 R} (w k n : Nat) (e : w < 4294967296) (f : k ≤ 32) (g : n < 32) : sQ W0 284 [wV w, iQ k, iQ n] R (iQ (w / 2 ^ k % 2 ^ n : Nat)) R := by
 have i : 2 ^ n < 4294967296 := Nat.pow_lt_pow_right (by decide) (show n < 32 from g) (a := 2)
 have c : 0 < 2 ^ n := Qcq n
 have h : w / 2 ^ k < 4294967296 := QaI (QbQ _ _) e
 have j : w / 2 ^ k % 2 ^ n < 2 ^ n := Qcd _ c
 have d : ip .u32 1 ((n : Nat) : Int) = ((2 ^ n : Nat) : Int) := by
  unfold ip
  rw [Qaf, Qbm (show n ≤ IntKind.bits .u32 by show n ≤ 32; omega), Int.one_mul]
  rw [show ((2 : Int) ^ n) = ((2 ^ n : Nat) : Int) by push_cast; rfl]
  exact cZ (by omega)
 refine am func284 ntmps284 ?_
 refine bz [] 9 fun b => ?_
 refine aj 0 2 b ?_
 refine az 2 b (j5 rfl rfl (by omega) (jU (k := .u32) f)) ?_
 refine aj 3 1 b ?_
 refine az 4 b (l9 rfl rfl (by omega) d) ?_
 refine az 5 b (l8 rfl rfl (by rw [show ((2 ^ n : Nat) : Int) - 1 = ((2 ^ n - 1 : Nat) : Int) by omega]; exact cZ (by omega) : IntKind.wrap .u32 (((2 ^ n : Nat) : Int) - 1) = ((2 ^ n - 1 : Nat) : Int))) ?_
 refine az 6 b (eC rfl rfl (by rw [lh h (by omega), rI])) ?_
 refine az 7 b (bG (cj (by omega))) ?_
 refine aj 8 1 b ?_
 refine aJ ?_
 exact ac ao
theorem a2E {w : Nat} (a : w < 4294967296) : jN .i32 (IntKind.wrap .i32 w) 18 = rP w := by
 have e : IntKind.wrap .i32 (w : Int) = if w < 2147483648 then (w : Int) else (w : Int) - 4294967296 := by
  simp only [IntKind.wrap, IntKind.bits, IntKind.signed]
  simp
  omega
 rw [e]
 unfold jN rP
 rw [show min (18 : Int).toNat (IntKind.bits .i32) = 18 by decide]
 rw [Int.fdiv_eq_ediv_of_nonneg _ (by decide)]
 split
 omega
 omega
abbrev Bp : Ins := ⟨0, 0, 0, 0, 0⟩
theorem a2F {W0 R} (l : ∀ A, bE (aQ W0 A) 0 0 kX) w (c : w < 4294967296) : sQ W0 211 [wV w] R (.tuple #[.agg (fH (if gG (fq w) then fq w else Bp)).toArray, .bool (gG (fq w))]) R := by
 have f : w / 2 ^ 0 % 2 ^ 6 = (fq w).op := by simp [fq]
 have g : w / 2 ^ 6 % 2 ^ 4 = (fq w).d := rfl
 have h : w / 2 ^ 10 % 2 ^ 4 = (fq w).a := rfl
 have j : w / 2 ^ 14 % 2 ^ 4 = (fq w).b := rfl
 have k : rP w = (fq w).im := rfl
 have o := Xw c
 obtain ⟨i, m⟩ : ∃ i, fq w = i := ⟨_, rfl⟩
 rw [m] at f g h j k ⊢
 obtain ⟨z, n⟩ : ∃ z, gG i = z := ⟨_, rfl⟩
 refine am func211 ntmps211 ?_
 refine bu fun p => ?_
 refine ah (aB GF (Bo w 0 6 c (by decide) (by decide))) ?_
 rw [f]
 refine ah (aB GF (Bo w 6 4 c (by decide) (by decide))) ?_
 rw [g]
 refine ah (aB GF (Bo w 10 4 c (by decide) (by decide))) ?_
 rw [h]
 refine ah (aB GF (Bo w 14 4 c (by decide) (by decide))) ?_
 rw [j]
 refine aa (bG rfl) ?_
 refine aa (j5 rfl rfl (by decide) ((a2E c).trans k)) ?_
 refine aa (bG (cj (by omega))) ?_
 refine bu fun q => ?_
 refine ar aA ?_
 refine ah (aB GG (Bn l i)) ?_
 rw [n]
 refine ai (fun e => ?_) fun e => ?_
 refine ar aA ?_
 refine aV (.cons (b0 C5 py rfl rfl) (.cons (aR rfl) .nil)) ?_
 rw [show z = false by simpa using e]
 exact ao
 refine ar aA ?_
 refine aV (.cons (b0 C5 py rfl rfl) (.cons (aR rfl) .nil)) ?_
 rw [show z = true by simpa using e]
 exact ao
theorem Lo {W0 R} (a : Nat) : sQ W0 287 [iQ a] R (.bool (i7 a)) R := by
 refine am func287 ntmps287 ?_
 refine ai (fun b => ?_) fun b => ?_
 refine ac ?_
 rw [show i7 a = true from Qai (by omega)]
 exact ao
 refine ai (fun c => ?_) fun c => ?_
 refine ac ?_
 rw [show i7 a = true from Qai (by omega)]
 exact ao
 refine ai (fun d => ?_) fun d => ?_
 refine ac ?_
 rw [show i7 a = true from Qai (by omega)]
 exact ao
 refine ai (fun e => ?_) fun e => ?_
 refine ac ?_
 rw [show i7 a = true from Qai (by omega)]
 exact ao
 refine ai (fun f => ?_) fun f => ?_
 refine ac ?_
 rw [show i7 a = true from Qai (by omega)]
 exact ao
 refine ai (fun g => ?_) fun g => ?_
 refine ac ?_
 rw [show i7 a = true from Qai (by omega)]
 exact ao
 refine ac ?_
 rw [show i7 a = false from Qal (by omega)]
 exact ao
theorem a2G x y : lD .u32 x y = (u32 (lD .u32 x y)) := by
 grind [lD, d8, vX, dJ]
theorem a2H {W0 R} (c : ∀ A, bE (aQ W0 A) 0 0 kX) i (b : gG i = true) : sQ W0 339 [.agg (fH i).toArray] R (.tuple #[wV (my i), iQ 0]) R := by
 obtain ⟨d, e, f, g, h⟩ := rQ b
 refine am func339 ntmps339 ?_
 refine bB fun j => ?_
 refine ah (aB GG (Bn c i)) ?_
 refine aC rfl (fun a => ?_) fun a => ?_
 rw [b] at a; exact absurd a (by decide)
 refine aw ?_
 refine aa (bG (cZ (by omega))) ?_
 refine aa (bG (cZ (by omega))) ?_
 refine aa (l9 rfl rfl (by decide) rfl) ?_
 refine aa (mo rfl rfl rfl) ?_
 refine aa (bG (cZ (by omega))) ?_
 refine aa (l9 rfl rfl (by decide) rfl) ?_
 refine aa (mo rfl rfl rfl) ?_
 refine aa (bG (cZ (by omega))) ?_
 refine aa (l9 rfl rfl (by decide) rfl) ?_
 refine aa (mo rfl rfl rfl) ?_
 refine aa (bG (d8 i.im)) ?_
 refine aa (l9 rfl rfl (by decide) rfl) ?_
 refine aa (mo rfl rfl (a2G _ _)) ?_
 exact ax ao
end
@[reducible] def cK (e : Eff) : List Value := [.int .i64 e.k, wV e.pc, wV e.addr, .int .i64 e.width, .bool e.signed, .int .i64 e.d, wV e.val, wV e.cause, wV e.tval]
@[reducible] def coV (i : Ins) (rb cb : Nat) (clock : Int) : List Value := fH i ++ [pV rb, pV cb, .int .i64 clock]
abbrev ou (i : Ins) (rb cb : Nat) (clock : Int) : Obj := ag (coV i rb cb clock) 411
abbrev g5 (sb : Nat) (i : Ins) (rb cb : Nat) (clock : Int) (x : Cpu) (id : Nat) (R : List HP) : List HP := pt sb (ou i rb cb clock) :: pt rb (dF x.rl x.pc) :: pt cb (eg x.cs id) :: R
section
variable (W0 : World) (R : List HP) (sb : Nat) (i : Ins) (rb cb : Nat) (clock : Int) (x : Cpu) (id : Nat)
theorem qX (a : CpOk x) (n : Nat) (b : n < 16) : sQ W0 386 [pV sb, iQ n] (pt sb (ou i rb cb clock) :: pt rb (dF x.rl x.pc) :: R) (wV (bP x.rl n)) (pt sb (ou i rb cb clock) :: pt rb (dF x.rl x.pc) :: R) := by
 refine am func386 ntmps386 ?_
 refine ah (ap O9 (EE rb x.rl x.pc n a.r.len b)) ?_
 exact ac ao
theorem s4 (a : CpOk x) : sQ W0 388 [pV sb] (pt sb (ou i rb cb clock) :: pt rb (dF x.rl x.pc) :: R) (wV (cP x.pc)) (pt sb (ou i rb cb clock) :: pt rb (dF x.rl x.pc) :: R) := by
 refine am func388 ntmps388 ?_
 refine ah (ap sx (qP rb x.rl x.pc a.r.len)) ?_
 refine aa (dh rfl rfl (d8 _)) ?_
 exact ac ao
theorem Lp (b : CpOk x) : sQ W0 394 [pV sb] (pt sb (ou i rb cb clock) :: pt rb (dF x.rl x.pc) :: R) (wV (mz x.pc i.im)) (pt sb (ou i rb cb clock) :: pt rb (dF x.rl x.pc) :: R) := by
 refine am func394 ntmps394 ?_
 refine bz [sb] 14 fun a => ?_
 refine aj 0 4 a ?_
 refine aj 5 5 a ?_
 refine az 10 a (bG (d8 i.im)) ?_
 refine az 11 a (qg rfl rfl (d8 _)) ?_
 refine bY 4 (ap sx (qP rb x.rl x.pc b.r.len)) fun a => ?_
 refine az 12 a (dh rfl rfl (d8 _)) ?_
 refine aj 13 1 a ?_
 refine aJ ?_
 exact ac ao
theorem yC (b : CpOk x) pc : sQ W0 393 [pV sb, wV pc] (pt sb (ou i rb cb clock) :: pt rb (dF x.rl x.pc) :: R) (.agg (cK (lp x pc).1).toArray) (pt sb (ou i rb cb clock) :: pt rb (dF (lp x pc).2.rl (lp x pc).2.pc) :: R) := by
 refine am func393 ntmps393 ?_
 refine bu fun c => ?_
 refine aF rfl (ir Cx rfl (y9 rb x.rl x.pc pc b.r.len)) ?_
 rintro _ d ⟨rfl, a⟩
 obtain rfl := a.symm
 refine aL (aH (aO (aY (ae rfl (aM rfl) (ae rfl (fT sq l7 (aP aS (aP aX (aP aX (aP aS (aP iN (aP aS (aP aX (aP aX (aP aX fR))))))))) (cu rfl aS rfl rfl (Qab rfl) SetL.eq (cu rfl aX rfl rfl (Qab rfl) SetL.eq fQ))) ?_)))))
 refine fh (gi dv rfl rfl rfl rfl rfl) ?_
 rintro _ _ rfl
 refine aL (aH (dE ?_))
 exact aV (.cons (b0 dK dv rfl rfl) .nil) ao
theorem yD (b : CpOk x) (g : i.d < 16) v pc (f : v < 4294967296) : sP W0 387 [pV sb, wV v, wV pc] (pt sb (ou i rb cb clock) :: pt rb (dF x.rl x.pc) :: R) (fun r B => r = .agg (cK (jW i x v pc).1).toArray ∧ B = pt sb (ou i rb cb clock) :: pt rb (dF (jW i x v pc).2.rl (jW i x v pc).2.pc) :: R) := by
 have a : gK (i.d : Int) = true := by grind [gK]
 refine am func387 ntmps387 ?_
 refine bu fun h => ?_
 refine bz [sb] 11 fun c => ?_
 refine aj 0 10 c ?_
 refine bQ 10 (ap Cy (F2 rb x.rl x.pc v i.d b.r.len)) ?_; clear c
 rintro _ j ⟨rfl, e⟩
 obtain rfl := e.symm
 rw [Qad a, Qad a, Qaf]
 refine ⟨aT, fun c => ?_⟩
 refine aJ ?_
 refine ah (cv Cz (yC W0 _ sb i rb cb clock { x with rl := j8 x.rl i.d v } ⟨b.r.set i.d v f, b.pc, b.cs⟩ pc)) ?_
 refine ar aA ?_
 exact aV (.cons (b0 dK dv rfl rfl) .nil) ao
theorem wA {W0 R} c t : sQ W0 288 [wV c, wV t] R (.agg (cK (m6 c t)).toArray) R := by
 refine am func288 ntmps288 ?_
 refine eH (di l7) fun a => ?_
 refine aL (aH (aO (aY (ae rfl (aM rfl) (ae rfl (aM rfl) (ae rfl (fT sq l7 (aP aS (aP aX (aP aX (aP aS (aP iN (aP aS (aP aX (aP aX (aP aX fR))))))))) (cu rfl aS rfl rfl (Qab rfl) SetL.eq (cu rfl aX rfl rfl (Qab rfl) SetL.eq (cu rfl aX rfl rfl (Qab rfl) SetL.eq fQ)))) ?_))))))
 refine fh (gi dv rfl rfl rfl rfl rfl) ?_
 rintro _ _ rfl
 refine aL (aH (dE ?_))
 exact aV (.cons (b0 dK dv rfl rfl) .nil) ao
theorem a2J : sQ W0 391 [pV sb] (pt sb (ou i rb cb clock) :: R) (iQ (mF i.op)) (pt sb (ou i rb cb clock) :: R) := by
 refine am func391 ntmps391 ?_
 refine cn (fun a => ?_) fun a => ?_
 refine ac ?_
 rw [mF, Qad (by omega)]
 exact ao
 refine ai (fun b => ?_) fun b => ?_
 refine ac ?_
 rw [mF, Qad (by omega)]
 exact ao
 refine ac ?_
 rw [mF, Qaa (by omega)]
 exact ao
def F8 (f : FuncId) (o : Eff × Cpu) : Prop := (∀ args w, (callFunc f args).run Tryz.prog w = .ok (.enter f args) w) ∧ ∀ R, bF Tryz.prog W0 f ([pV sb] ++ [] ++ []) (g5 sb i rb cb clock x id R) (fun v B => v = .agg (cK o.1).toArray ∧ B = g5 sb i rb cb clock o.2 id R)
theorem a2K (c : CpOk x) (j : i.d < 16) (k : i.a < 16) (l : i.b < 16) (h : 1 ≤ i.op ∧ i.op ≤ 13) : sQ W0 340 [pV sb] (g5 sb i rb cb clock x id R) (.agg (cK (jW i x (kC i.op (bP x.rl i.a) (bP x.rl i.b)) (cP x.pc)).1).toArray) (g5 sb i rb cb clock (jW i x (kC i.op (bP x.rl i.a) (bP x.rl i.b)) (cP x.pc)).2 id R) := by
 have f := c.r.at_ i.a
 have g := c.r.at_ i.b
 refine am func340 ntmps340 ?_
 refine bu fun m => ?_
 refine bz [sb] 25 fun e => ?_
 refine aj 0 11 e ?_
 refine aj 12 6 e ?_
 refine bY 11 (cv sy (qX W0 _ sb i rb cb clock x c i.a k)) fun e => ?_
 refine bY 18 (cv sy (qX W0 _ sb i rb cb clock x c i.b l)) fun e => ?_
 refine bY 19 (aB call385 (Lh W0 _ (bP x.rl i.a) (bP x.rl i.b) i.op h f g)) fun e => ?_
 refine aj 20 5 e ?_
 refine aJ ?_
 refine ah (cv tX (s4 W0 _ sb i rb cb clock x c)) ?_
 refine ah (cv CB (yD W0 _ sb i rb cb clock x c j (kC i.op (bP x.rl i.a) (bP x.rl i.b)) (cP x.pc) (vY f g))) ?_
 refine ar aA ?_
 exact aV (.cons (b0 dK dv rfl rfl) .nil) ao
theorem a2L (hx : CpOk x) (hi : i.d < 16) (ha : i.a < 16) (h : 14 ≤ i.op ∧ i.op ≤ 21) : sQ W0 341 [pV sb] (g5 sb i rb cb clock x id R) (.agg (cK (jW i x (kC (i5 i.op) (bP x.rl i.a) (u32 i.im)) (cP x.pc)).1).toArray) (g5 sb i rb cb clock (jW i x (kC (i5 i.op) (bP x.rl i.a) (u32 i.im)) (cP x.pc)).2 id R) := by
 have c := hx.r.at_ i.a
 have e : 1 ≤ i5 i.op ∧ i5 i.op ≤ 13 := by
  grind [i5]
 refine am func341 ntmps341 ?_
 refine bu fun f => ?_
 refine ah (aB call389 (a2u W0 _ i.op h)) ?_
 refine bz [sb] 20 fun b => ?_
 refine aj 0 7 b ?_
 refine aj 8 5 b ?_
 refine az 13 b (bG (d8 i.im)) ?_
 refine bY 7 (cv sy (qX W0 _ sb i rb cb clock x hx i.a ha)) fun b => ?_
 refine bY 14 (aB call385 (Lh W0 _ (bP x.rl i.a) (u32 i.im) (i5 i.op) e c (dJ _))) fun b => ?_
 refine aj 15 5 b ?_
 refine aJ ?_
 refine ah (cv tX (s4 W0 _ sb i rb cb clock x hx)) ?_
 refine ah (cv CB (yD W0 _ sb i rb cb clock x hx hi (kC (i5 i.op) (bP x.rl i.a) (u32 i.im)) (cP x.pc) (vY c (dJ _)))) ?_
 refine ar aA ?_
 exact aV (.cons (b0 dK dv rfl rfl) .nil) ao
theorem a2M (a : CpOk x) (b : i.d < 16) : sQ W0 342 [pV sb] (g5 sb i rb cb clock x id R) (.agg (cK (jW i x (uv i.im) (cP x.pc)).1).toArray) (g5 sb i rb cb clock (jW i x (uv i.im) (cP x.pc)).2 id R) := by
 refine am func342 ntmps342 ?_
 refine bu fun c => ?_
 refine ah (aB call390 (a2v W0 _ i.im)) ?_
 refine ah (cv tX (s4 W0 _ sb i rb cb clock x a)) ?_
 refine ah (cv CB (yD W0 _ sb i rb cb clock x a b (uv i.im) (cP x.pc) (dJ _))) ?_
 refine ar aA ?_
 exact aV (.cons (b0 dK dv rfl rfl) .nil) ao
theorem a2N (j : CpOk x) (q : i.a < 16) (p : i.b < 16) (h : 23 ≤ i.op ∧ i.op ≤ 27) : sQ W0 343 [pV sb] (g5 sb i rb cb clock x id R) (.agg (cK (rR i x)).toArray) (g5 sb i rb cb clock x id R) := by
 have r : mF i.op < 4294967296 := by grind [DN]
 have k : mF i.op ≠ 0 := by grind [mF]
 obtain ⟨c, g⟩ : ∃ a, mD (bP x.rl i.a) i.im = a := ⟨_, rfl⟩
 obtain ⟨m, l⟩ : ∃ m, mF i.op = m := ⟨_, rfl⟩
 rw [rR, g, l]
 rw [l] at r k
 refine am func343 ntmps343 ?_
 refine bu fun n => ?_
 refine gj (b := n) (o' := ag (cK m5) 267) rfl ?_
 refine bz [sb] 18 fun e => ?_
 refine aj 0 6 e ?_
 refine aj 7 5 e ?_
 refine az 12 e (bG (d8 i.im)) ?_
 refine aj 14 1 e ?_
 refine bY 6 (cv sy (qX W0 _ sb i rb cb clock x j i.a q)) fun e => ?_
 refine az 13 e (dh rfl rfl (show _ = ((c : Nat) : Int) by rw [← g]; exact d8 _)) ?_
 refine bQ 15 (ap call391 (a2J W0 _ sb i rb cb clock)) ?_; clear e
 rintro _ s ⟨rfl, f⟩
 obtain rfl := f.symm
 rw [l]
 refine ⟨aT, fun e => ?_⟩
 refine aj 16 2 e ?_
 refine aJ ?_
 refine aa (bG (cZ (by omega))) ?_
 refine aa (dV rfl rfl (by omega) (iE c m)) ?_
 refine ai (fun t => ?_) fun t => ?_
 refine ah (aB zE (wA 2 c)) ?_
 refine ar aA ?_
 refine aV (.cons (b0 dK dv rfl rfl) .nil) ?_
 rw [Qad (by omega)]
 exact ao
 rw [Qaa (by omega)]
 refine aF rfl (zQ tX rfl (s4 W0 _ sb i rb cb clock x j)) ?_
 rintro _ s ⟨rfl, f⟩
 obtain rfl := f.symm
 refine ae rfl (fT sq l7 (aP aS (aP aX (aP aX (aP aS (aP iN (aP aS (aP aX (aP aX (aP aX fR))))))))) (cu rfl aS rfl rfl (Qab rfl) SetL.eq (cu rfl aX rfl rfl (Qab rfl) SetL.eq (cu rfl aS rfl rfl (Qab rfl) SetL.eq (cu rfl aX rfl rfl (Qab rfl) SetL.eq fQ))))) ?_
 refine aF rfl (di l7) ?_
 rintro _ _ ⟨o, rfl, rfl⟩
 refine iB 2 aA ?_
 refine cy (fun _ : Unit => True) (fun _ => [(2, pV n), (5, pV o)]) (fun _ => pt n (ag (cK m5) 267) :: pt o (ag (cK (if i.op = 26 ∨ i.op = 27 then ⟨2, cP x.pc, c, m, false, 0, bP x.rl i.b, 0, 0⟩ else ⟨1, cP x.pc, c, m, decide (i.op = 24), i.d, 0, 0, 0⟩)) 267) :: g5 sb i rb cb clock x id R) ?_ ?_
 refine au 1 ?_
 refine gj (b := o) (o' := ag (cK ⟨1, cP x.pc, c, m, false, 0, 0, 0, 0⟩) 267) rfl ?_
 refine aw ?_
 refine ai (fun u => ?_) fun u => ?_
 refine ah (cv sy (qX W0 _ sb i rb cb clock x j i.b p)) ?_
 refine ar (iU (by exact rfl : (cK ⟨1, cP x.pc, c, m, false, 0, 0, 0, 0⟩).set 0 (iQ 2) = cK ⟨2, cP x.pc, c, m, false, 0, 0, 0, 0⟩)) ?_
 refine ar (iU (by exact rfl : (cK ⟨2, cP x.pc, c, m, false, 0, 0, 0, 0⟩).set 6 (wV (bP x.rl i.b)) = cK ⟨2, cP x.pc, c, m, false, 0, bP x.rl i.b, 0, 0⟩)) ?_
 refine bq () ?_ (he := ?_)
 trivial
 rw [Qad (by omega)]
 exact IO
 refine ai (fun v => ?_) fun v => ?_
 refine ah (cv sy (qX W0 _ sb i rb cb clock x j i.b p)) ?_
 refine ar (iU (by exact rfl : (cK ⟨1, cP x.pc, c, m, false, 0, 0, 0, 0⟩).set 0 (iQ 2) = cK ⟨2, cP x.pc, c, m, false, 0, 0, 0, 0⟩)) ?_
 refine ar (iU (by exact rfl : (cK ⟨2, cP x.pc, c, m, false, 0, 0, 0, 0⟩).set 6 (wV (bP x.rl i.b)) = cK ⟨2, cP x.pc, c, m, false, 0, bP x.rl i.b, 0, 0⟩)) ?_
 refine bq () ?_ (he := ?_)
 trivial
 rw [Qad (by omega)]
 exact IO
 refine ai (fun w => ?_) fun w => ?_
 refine ar (iU (by exact rfl : (cK ⟨1, cP x.pc, c, m, false, 0, 0, 0, 0⟩).set 4 (.bool true) = cK ⟨1, cP x.pc, c, m, true, 0, 0, 0, 0⟩)) ?_
 refine ar (iU (by exact rfl : (cK ⟨1, cP x.pc, c, m, true, 0, 0, 0, 0⟩).set 5 (iQ i.d) = cK ⟨1, cP x.pc, c, m, true, i.d, 0, 0, 0⟩)) ?_
 refine bq () ?_ (he := ?_)
 trivial
 rw [Qaa (by omega), Qai (by omega)]
 exact IO
 refine ar (iU (by exact rfl : (cK ⟨1, cP x.pc, c, m, false, 0, 0, 0, 0⟩).set 5 (iQ i.d) = cK ⟨1, cP x.pc, c, m, false, i.d, 0, 0, 0⟩)) ?_
 refine bq () ?_ (he := ?_)
 trivial
 rw [Qaa (by omega), Qal (by omega)]
 exact IO
 intro _ _
 refine aw ?_
 refine ar aA ?_
 exact aV (.cons (b0 dK dv rfl rfl) .nil) ao
theorem a2O (d : CpOk x) (g : i.a < 16) (j : i.b < 16) (h : 28 ≤ i.op ∧ i.op ≤ 31) : sQ W0 344 [pV sb] (g5 sb i rb cb clock x id R) (.agg (cK (lp x (if uu i.op (bP x.rl i.a) (bP x.rl i.b) then mz x.pc i.im else cP x.pc)).1).toArray) (g5 sb i rb cb clock (lp x (if uu i.op (bP x.rl i.a) (bP x.rl i.b) then mz x.pc i.im else cP x.pc)).2 id R) := by
 obtain ⟨z, k⟩ : ∃ z, uu i.op (bP x.rl i.a) (bP x.rl i.b) = z := ⟨_, rfl⟩
 refine am func344 ntmps344 ?_
 refine bu fun l => ?_
 refine bz [sb] 25 fun c => ?_
 refine aj 0 11 c ?_
 refine aj 12 6 c ?_
 refine bY 11 (cv sy (qX W0 _ sb i rb cb clock x d i.a g)) fun c => ?_
 refine bY 18 (cv sy (qX W0 _ sb i rb cb clock x d i.b j)) fun c => ?_
 refine bQ 19 (aB call392 (a2t W0 _ (bP x.rl i.a) (bP x.rl i.b) i.op h)) ?_; clear c
 rintro _ m ⟨rfl, e⟩
 obtain rfl := e.symm
 rw [k]
 refine ⟨aT, fun c => ?_⟩
 refine aj 20 5 c ?_
 refine aJ ?_
 refine ai (fun f => ?_) fun f => ?_
 rw [Qad f]
 refine ah (cv call394 (Lp W0 _ sb i rb cb clock x d)) ?_
 refine ah (cv Cz (yC W0 _ sb i rb cb clock x d (mz x.pc i.im))) ?_
 refine ar aA ?_
 exact aV (.cons (b0 dK dv rfl rfl) .nil) ao
 rw [Qaa f]
 refine ah (cv tX (s4 W0 _ sb i rb cb clock x d)) ?_
 refine ah (cv Cz (yC W0 _ sb i rb cb clock x d (cP x.pc))) ?_
 refine ar aA ?_
 exact aV (.cons (b0 dK dv rfl rfl) .nil) ao
theorem a2P (e : CpOk x) (g : i.d < 16) (h : i.a < 16) : sQ W0 345 [pV sb] (g5 sb i rb cb clock x id R) (.agg (cK (jW i x (cP x.pc) (if i.op = 33 then mD (bP x.rl i.a) i.im else mz x.pc i.im)).1).toArray) (g5 sb i rb cb clock (jW i x (cP x.pc) (if i.op = 33 then mD (bP x.rl i.a) i.im else mz x.pc i.im)).2 id R) := by
 refine am func345 ntmps345 ?_
 refine bu fun f => ?_
 refine gj (b := f) (o' := ag (cK m5) 267) rfl ?_
 refine aw ?_
 refine eh 3 (cv call394 (Lp W0 _ sb i rb cb clock x e)) ?_
 refine cy (fun _ : Unit => True) (fun _ => [(0, pV sb), (2, pV f), (3, wV (if i.op = 33 then mD (bP x.rl i.a) i.im else mz x.pc i.im))]) (fun _ => pt f (ag (cK m5) 267) :: g5 sb i rb cb clock x id R) ?_ ?_
 refine au 10 ?_
 refine ai (fun j => ?_) fun j => ?_
 refine bz [sb] 15 fun c => ?_
 refine aj 0 6 c ?_
 refine aj 7 5 c ?_
 refine az 12 c (bG (d8 i.im)) ?_
 refine bY 6 (cv sy (qX W0 _ sb i rb cb clock x e i.a h)) fun c => ?_
 refine az 13 c (dh rfl rfl (d8 _)) ?_
 refine aj 14 1 c ?_
 refine aJ ?_
 refine df () ?_ ?_ ?_
 trivial
 · rw [Qad (by omega)]
   repeat (first | exact bK | refine aZ rfl ?_)
 exact IO
 refine df () ?_ ?_ ?_
 trivial
 · rw [Qaa (by omega)]
   repeat (first | exact bK | refine aZ rfl ?_)
 exact IO
 intro _ _
 refine aw ?_
 refine ah (cv tX (s4 W0 _ sb i rb cb clock x e)) ?_
 refine ah (cv CB (yD W0 _ sb i rb cb clock x e g (cP x.pc) (if i.op = 33 then mD (bP x.rl i.a) i.im else mz x.pc i.im) (dJ _))) ?_
 refine ar aA ?_
 exact aV (.cons (b0 dK dv rfl rfl) .nil) ao
theorem a2Q (d : CpOk x) : sQ W0 399 [pV sb] (g5 sb i rb cb clock x id R) (.agg (cK ⟨qD i.op, cP x.pc, 0, 0, false, 0, 0, 0, 0⟩).toArray) (g5 sb i rb cb clock x id R) := by
 refine am func399 ntmps399 ?_
 refine eH (di l7) fun a => ?_
 refine au 3 ?_
 refine gj (b := a) (o' := ag (cK m5) 267) rfl ?_
 refine au 4 ?_
 refine cy (fun _ : Unit => True) (fun _ => [(0, pV sb), (2, pV a), (3, iQ ((qD i.op : Nat) : Int))]) (fun _ => pt a (ag (cK m5) 267) :: g5 sb i rb cb clock x id R) ?_ ?_
 refine au 16 ?_
 refine ai (fun e => ?_) fun e => ?_
 refine df () ?_ ?_ ?_
 trivial
 · rw [qD, Qad (by omega)]
   repeat (first | exact bK | refine aZ rfl ?_)
 exact IO
 refine ai (fun f => ?_) fun f => ?_
 refine df () ?_ ?_ ?_
 trivial
 · rw [qD, Qaa (by omega), Qad (by omega)]
   repeat (first | exact bK | refine aZ rfl ?_)
 exact IO
 refine df () ?_ ?_ ?_
 trivial
 · rw [qD, Qaa (by omega), Qaa (by omega)]
   repeat (first | exact bK | refine aZ rfl ?_)
 exact IO
 intro _ _
 refine aw ?_
 refine aF rfl (zQ tX rfl (s4 W0 _ sb i rb cb clock x d)) ?_
 rintro _ g ⟨rfl, c⟩
 obtain rfl := c.symm
 refine ae rfl (fT sq l7 (aP aS (aP aX (aP aX (aP aS (aP iN (aP aS (aP aX (aP aX (aP aX fR))))))))) (cu rfl aS rfl rfl (Qab rfl) SetL.eq (cu rfl aX rfl rfl (Qab rfl) SetL.eq fQ))) ?_
 refine fh (gi dv rfl rfl rfl rfl rfl) ?_
 rintro _ _ rfl
 refine aL (aH (dE ?_))
 exact aV (.cons (b0 dK dv rfl rfl) .nil) ao
theorem Lq (a : CpOk x) (h : i.op = 34 ∨ i.op = 41) : sQ W0 395 [pV sb] (g5 sb i rb cb clock x id R) (.agg (cK (if i.op = 34 then m6 6 0 else m6 8 x.pc)).toArray) (g5 sb i rb cb clock x id R) := by
 refine am func395 ntmps395 ?_
 refine bu fun c => ?_
 refine ai (fun b => ?_) fun b => ?_
 refine ah (ap sx (qP rb x.rl x.pc a.r.len)) ?_
 refine ah (aB zE (wA 8 x.pc)) ?_
 refine ar aA ?_
 refine aV (.cons (b0 dK dv rfl rfl) .nil) ?_
 rw [Qaa (by omega)]
 exact ao
 refine ah (aB zE (wA 6 0)) ?_
 refine ar aA ?_
 refine aV (.cons (b0 dK dv rfl rfl) .nil) ?_
 rw [Qad (by omega)]
 exact ao
theorem a2R (a : CpOk x) : sQ W0 396 [pV sb] (g5 sb i rb cb clock x id R) (.agg (cK (lp { x with cs := oV x.cs } (d9 x.cs 2)).1).toArray) (g5 sb i rb cb clock (lp { x with cs := oV x.cs } (d9 x.cs 2)).2 id R) := by
 refine am func396 ntmps396 ?_
 refine bu fun b => ?_
 refine ah (ap call430 (a2g cb a.cs)) ?_
 refine ah (cv Cz (yC W0 _ sb i rb cb clock x a (d9 x.cs 2))) ?_
 refine ar aA ?_
 exact aV (.cons (b0 dK dv rfl rfl) .nil) ao
theorem a2S (e : CpOk x) (h : i.d < 16) (c : id < 4) (l : 0 ≤ clock) (m : dR x.cs = true) (n : Nat) (j : i.im = n) (o : n < 9) : sQ W0 397 [pV sb] (g5 sb i rb cb clock x id R) (.agg (cK (jW i x (oW x.cs id clock.toNat n) (cP x.pc)).1).toArray) (g5 sb i rb cb clock (jW i x (oW x.cs id clock.toNat n) (cP x.pc)).2 id R) := by
 obtain ⟨k, d, a, b, p⟩ := i
 dsimp only at j h
 subst j
 refine am func397 ntmps397 ?_
 refine bu fun q => ?_
 refine bz [sb] 19 fun f => ?_
 refine aj 0 13 f ?_
 refine bQ 13 (ap call338 (L8 cb e.cs c n o clock l)) ?_; clear f
 rintro _ r ⟨rfl, g⟩
 obtain rfl := g.symm
 rw [m, Qad rfl]
 refine ⟨aT, fun f => ?_⟩
 refine aj 14 5 f ?_
 refine aJ ?_
 refine ah (cv tX (s4 W0 _ sb ⟨k, d, a, b, n⟩ rb cb clock x e)) ?_
 refine ah (cv CB (yD W0 _ sb ⟨k, d, a, b, n⟩ rb cb clock x e h (oW x.cs id clock.toNat n) (cP x.pc) (DK e.cs c))) ?_
 refine ar aA ?_
 exact aV (.cons (b0 dK dv rfl rfl) .nil) ao
theorem F9 {W0 R} (a : ∀ A, bE (aQ W0 A) 0 0 kX) i (b : gG i = true) : sQ W0 289 [.agg (fH i).toArray] R (wV (my i)) R := by
 refine am func289 ntmps289 ?_
 refine bB fun c => ?_
 refine ah (aB call339 (a2H a i b)) ?_
 exact ac ao
theorem a2T (l : ∀ A, bE (aQ W0 A) 0 0 kX) (e : CpOk x) (m : gG i = true) (j : i.a < 16) (o : dR x.cs = true) (n : Nat) (k : i.im = n) (p : n < 9) : sQ W0 398 [pV sb] (g5 sb i rb cb clock x id R) (.agg (cK (if n ≤ 6 then lp { x with cs := x.cs.set n (kE n (bP x.rl i.a)) } (cP x.pc) else (m6 1 (my i), x)).1).toArray) (g5 sb i rb cb clock (if n ≤ 6 then lp { x with cs := x.cs.set n (kE n (bP x.rl i.a)) } (cP x.pc) else (m6 1 (my i), x)).2 id R) := by
 obtain ⟨c, d, a, b, s⟩ := i
 dsimp only at k j ⊢
 subst k
 refine am func398 ntmps398 ?_
 refine bu fun t => ?_
 refine bz [sb] 18 fun f => ?_
 refine aj 0 15 f ?_
 refine bY 15 (cv sy (qX W0 _ sb ⟨c, d, a, b, n⟩ rb cb clock x e a j)) fun f => ?_
 refine bY 16 (ap call431 (a2c cb e.cs n (bP x.rl a) p (e.r.at_ a) o)) fun f => ?_
 refine aj 17 1 f ?_
 refine aJ ?_
 refine ai (fun g => ?_) fun g => ?_
 have h : ¬ n ≤ 6 := fun q => by rw [Qad q] at g; exact absurd rfl g
 simp only [Qaa h]
 refine aa (dj (pD (vs := fH ⟨c, d, a, b, n⟩) rfl)) ?_
 refine ah (aB Oa (F9 l ⟨c, d, a, b, n⟩ m)) ?_
 refine ah (aB zE (wA 1 (my ⟨c, d, a, b, n⟩))) ?_
 refine ar aA ?_
 exact aV (.cons (b0 dK dv rfl rfl) .nil) ao
 have h : n ≤ 6 := by
  omega
 simp only [Qad h]
 refine ah (cv tX (s4 W0 _ sb ⟨c, d, a, b, n⟩ rb cb clock x e)) ?_
 refine ah (cv Cz (yC W0 _ sb ⟨c, d, a, b, n⟩ rb cb clock x e (cP x.pc))) ?_
 refine ar aA ?_
 exact aV (.cons (b0 dK dv rfl rfl) .nil) ao
theorem pi {f o o'} (b : ∀ a w, (callFunc f a).run Tryz.prog w = .ok (.enter f a) w) (e : o = o') (h : ∀ R, bF Tryz.prog W0 f [pV sb] (g5 sb i rb cb clock x id R) (fun v B => v = .agg (cK o'.1).toArray ∧ B = g5 sb i rb cb clock o'.2 id R)) : F8 W0 sb i rb cb clock x id f o := ⟨b, by rw [e]; exact h⟩
theorem Lr {i} (a : gG i = true) (h : i.op = 37 ∨ i.op = 38) : ∃ n : Nat, i.im = n ∧ n < 9 := by
 have := (rQ a).2.2.2.2
 rw [dx, Qaa (by omega), Qad h] at this
 have := Qar this
 exact ⟨i.im.toNat, by omega, by omega⟩
theorem a2U (j : ∀ A, bE (aQ W0 A) 0 0 kX) (a : CpOk x) (c : gG i = true) (d : id < 4) (k : 0 ≤ clock) (h : 34 ≤ i.op) (g : i7 i.op = true → dR x.cs = true) : sP W0 346 [pV sb] (g5 sb i rb cb clock x id R) (fun v B => ∃ f, v = .func (.func f) #[pV sb] #[] ∧ B = g5 sb i rb cb clock x id R ∧ F8 W0 sb i rb cb clock x id f (kF id clock.toNat i x)) := by
 obtain ⟨u, l, m, w, o⟩ := rQ c
 refine am func346 ntmps346 ?_
 refine ai (fun p => ?_) fun p => ?_
 refine ac ?_
 refine ⟨_, ⟨_, rfl, rfl, pi W0 sb i rb cb clock x id (o' := (if i.op = 34 then m6 6 0 else m6 8 x.pc, x)) call395 ?_ fun R => Lq W0 R sb i rb cb clock x id a (by omega)⟩, IO⟩
 unfold kF
 split
 rfl
 rw [Qad (by omega)]
 refine ai (fun q => ?_) fun q => ?_
 refine ac ?_
 refine ⟨_, ⟨_, rfl, rfl, pi W0 sb i rb cb clock x id (o' := (if i.op = 34 then m6 6 0 else m6 8 x.pc, x)) call395 ?_ fun R => Lq W0 R sb i rb cb clock x id a (by omega)⟩, IO⟩
 unfold kF
 split
 rfl
 rw [Qad (by omega)]
 refine ai (fun r => ?_) fun r => ?_
 refine ac ?_
 refine ⟨_, ⟨_, rfl, rfl, pi W0 sb i rb cb clock x id call396 ?_ fun R => a2R W0 R sb i rb cb clock x id a⟩, IO⟩
 rw [kF, Qaa (by omega), Qaa (by omega), Qad (by omega)]
 refine ai (fun s => ?_) fun s => ?_
 refine ac ?_
 obtain ⟨n, b, e⟩ := Lr c (by omega)
 refine ⟨_, ⟨_, rfl, rfl, pi W0 sb i rb cb clock x id call397 ?_ fun R => a2S W0 R sb i rb cb clock x id a l d k (g (Qai (by omega))) n b e⟩, IO⟩
 rw [kF, Qaa (by omega), Qaa (by omega), Qaa (by omega), Qad (by omega), b, Qaf]
 refine ai (fun t => ?_) fun t => ?_
 refine ac ?_
 obtain ⟨n, b, e⟩ := Lr c (by omega)
 refine ⟨_, ⟨_, rfl, rfl, pi W0 sb i rb cb clock x id call398 ?_ fun R => a2T W0 R sb i rb cb clock x id j a c m (g (Qai (by omega))) n b e⟩, IO⟩
 rw [kF, Qaa (by omega), Qaa (by omega), Qaa (by omega), Qaa (by omega), Qad (by omega), b, Qaf]
 refine ac ?_
 refine ⟨_, ⟨_, rfl, rfl, pi W0 sb i rb cb clock x id (o' := (⟨qD i.op, cP x.pc, 0, 0, false, 0, 0, 0, 0⟩, x)) call399 ?_ fun R => a2Q W0 R sb i rb cb clock x id a⟩, IO⟩
 rw [kF, Qaa (by omega), Qaa (by omega), Qaa (by omega), Qaa (by omega), Qaa (by omega)]
theorem Bq (m : ∀ A, bE (aQ W0 A) 0 0 kX) (a : CpOk x) (k : gG i = true) (d : id < 4) (n : 0 ≤ clock) (o : i7 i.op = true → dR x.cs = true) : sP W0 290 [pV sb] (g5 sb i rb cb clock x id R) (fun v B => ∃ f, v = .func (.func f) #[pV sb] #[] ∧ B = g5 sb i rb cb clock x id R ∧ F8 W0 sb i rb cb clock x id f (gn id clock.toNat i x)) := by
 obtain ⟨u, c, b, e, p⟩ := rQ k
 refine am func290 ntmps290 ?_
 refine ai (fun q => ?_) fun q => ?_
 refine ac ?_
 refine ⟨_, ⟨_, rfl, rfl, pi W0 sb i rb cb clock x id call340 ?_ fun R => a2K W0 R sb i rb cb clock x id a c b e (by omega)⟩, IO⟩
 rw [gn, Qad (by omega)]
 refine ai (fun r => ?_) fun r => ?_
 refine ac ?_
 refine ⟨_, ⟨_, rfl, rfl, pi W0 sb i rb cb clock x id call341 ?_ fun R => a2L W0 R sb i rb cb clock x id a c b (by omega)⟩, IO⟩
 rw [gn, Qaa (by omega), Qad (by omega)]
 refine ai (fun s => ?_) fun s => ?_
 refine ac ?_
 refine ⟨_, ⟨_, rfl, rfl, pi W0 sb i rb cb clock x id call342 ?_ fun R => a2M W0 R sb i rb cb clock x id a c⟩, IO⟩
 rw [gn, Qaa (by omega), Qaa (by omega), Qad (by omega)]
 refine ai (fun t => ?_) fun t => ?_
 refine ac ?_
 refine ⟨_, ⟨_, rfl, rfl, pi W0 sb i rb cb clock x id (o' := (rR i x, x)) call343 ?_ fun R => a2N W0 R sb i rb cb clock x id a b e (by omega)⟩, IO⟩
 rw [gn, Qaa (by omega), Qaa (by omega), Qaa (by omega), Qad (by omega)]
 refine ai (fun g => ?_) fun g => ?_
 refine ac ?_
 refine ⟨_, ⟨_, rfl, rfl, pi W0 sb i rb cb clock x id call344 ?_ fun R => a2O W0 R sb i rb cb clock x id a b e (by omega)⟩, IO⟩
 rw [gn, Qaa (by omega), Qaa (by omega), Qaa (by omega), Qaa (by omega), Qad (by omega)]
 refine ai (fun h => ?_) fun h => ?_
 refine ac ?_
 refine ⟨_, ⟨_, rfl, rfl, pi W0 sb i rb cb clock x id call345 ?_ fun R => a2P W0 R sb i rb cb clock x id a c b⟩, IO⟩
 rw [gn, Qaa (by omega), Qaa (by omega), Qaa (by omega), Qaa (by omega), Qaa (by omega), Qad (by omega)]
 refine aF rfl (cN call346 (a2U W0 _ sb i rb cb clock x id m a k d n (by omega) o)) ?_
 rintro _ w ⟨f, rfl, j, l⟩
 obtain rfl := j.symm
 rw [show kF id clock.toNat i x = gn id clock.toNat i x by rw [gn, Qaa (by omega), Qaa (by omega), Qaa (by omega), Qaa (by omega), Qaa (by omega), Qaa (by omega)]] at l
 refine aw ?_
 refine ac ?_
 exact ⟨_, ⟨f, rfl, rfl, l⟩, IO⟩
theorem a2V {W0 R} cb cs id (h : CsOk cs) (a : id < 4) : sQ W0 286 [pV cb] (pt cb (eg cs id) :: R) (.bool false) (pt cb (eg cs id) :: R) := by
 refine am func286 ntmps286 ?_
 refine ah (ap call338 (L8 cb h a 0 (by decide) 0 (by decide))) ?_
 refine ac ?_
 refine aG ?_
 cases dR cs <;> rfl
theorem Fa (n : ∀ A, bE (aQ W0 A) 0 0 kX) (m : CpOk x) (o : gG i = true) (h : id < 4) (v : 0 ≤ clock) : sQ W0 212 [.agg (fH i).toArray, pV rb, pV cb, iQ clock] (pt rb (dF x.rl x.pc) :: pt cb (eg x.cs id) :: R) (.tuple #[.agg (cK (jX id clock.toNat i x).1).toArray, iQ 0]) (pt rb (dF (jX id clock.toNat i x).2.rl (jX id clock.toNat i x).2.pc) :: pt cb (eg (jX id clock.toNat i x).2.cs id) :: R) := by
 obtain ⟨t, b⟩ : ∃ k, dR x.cs = k := ⟨_, rfl⟩
 obtain ⟨w, c⟩ : ∃ k, i7 i.op = k := ⟨_, rfl⟩
 have D : ∀ z : Bool, (z && false) = false := fun z => by cases z <;> rfl
 rw [jX, b, c]
 refine am func212 ntmps212 ?_
 refine bB fun E => ?_
 refine bu fun F => ?_
 refine ah (ap O9 (EE rb x.rl x.pc 0 m.r.len (by decide))) ?_
 refine ai (fun C => ?_) fun C => ?_
 exact absurd rfl C
 refine ah (ap call83 (a2d cb m.cs)) ?_
 refine aa (xo iO aX Gg rfl) ?_
 refine aa (sI Tryz.eqGuardType73 rfl rfl (Jp (i := Tryz.t38) (ms := x.cs.map Int.ofNat) (ns := [0, 0, 0, 0, 0, 0, 0]) iO (by kernel_rfl) (by kernel_rfl) Ga pZ (by rw [List.map_map]; rfl) rfl (by rw [Qay]; exact m.cs.len) rfl)) ?_
 refine bN (fun u => ?_) fun u => ?_
 refine eh 3 (ap call286 (a2V cb x.cs id m.cs h)) ?_
 refine aC rfl (fun y => ?_) fun y => ?_
 first | exact absurd y (by decide) | (cases y)
 refine aw ?_
 refine ah (aB GG (Bn n i)) ?_
 refine aC rfl (fun p => ?_) fun p => ?_
 rw [o] at p; exact absurd p (by decide)
 refine aw ?_
 refine ah (aB call287 (Lo i.op)) ?_
 rw [c]
 refine bN (fun a => ?_) fun a => ?_
 refine ah (ap CC (yz cb m.cs)) ?_
 rw [show qW x.cs = [.bool (i6 x.cs), iQ (gH x.cs), .bool (!t)] by rw [qW, b]]
 refine aa (ED rfl G7 rfl nP rfl) ?_
 refine ai (fun s => ?_) fun s => ?_
 refine ah (aB Oa (F9 n i o)) ?_
 refine ah (aB zE (wA 7 (my i))) ?_
 refine ar aA ?_
 refine aV (.cons (b0 dK dv rfl rfl) (.cons (aR rfl) .nil)) ?_
 rw [Qad (by grind)]
 exact ao
 have d : i7 i.op = true → dR x.cs = true := fun q => by
  rw [c] at q
  rw [b]
  first | (simpa using s) | (subst q; exact absurd rfl a) | exact absurd q a
 have e : (w && !t) = false := by
  grind
 rw [e, Qaa (by decide)]
 refine aa (fT Cd GH (aP py (aP tO (aP tP (aP aS fR)))) (kh rfl py rfl rfl (Qab rfl) SetRL.eq (cu rfl tO rfl rfl (Qab rfl) SetL.eq (cu rfl tP rfl rfl (Qab rfl) SetL.eq (cu rfl aS rfl rfl (Qab rfl) SetL.eq fQ))))) ?_
 refine bB fun j => ?_
 refine aF rfl (cN GI (Bq W0 _ j i rb cb clock x id n m o h v d)) ?_
 rintro _ B ⟨f, rfl, g, l⟩
 obtain rfl := g.symm
 refine aw ?_
 refine ah (kj sV (jm (us := [pV j]) (cs := []) rfl l.1 rfl (l.2 _))) ?_
 refine ar aA ?_
 exact aV (.cons (b0 dK dv rfl rfl) (.cons (aR rfl) .nil)) ao
 have d : i7 i.op = true → dR x.cs = true := fun q => by
  rw [c] at q
  rw [b]
  first | (simpa using s) | (subst q; exact absurd rfl a) | exact absurd q a
 have e : (w && !t) = false := by
  grind
 rw [e, Qaa (by decide)]
 refine aa (fT Cd GH (aP py (aP tO (aP tP (aP aS fR)))) (kh rfl py rfl rfl (Qab rfl) SetRL.eq (cu rfl tO rfl rfl (Qab rfl) SetL.eq (cu rfl tP rfl rfl (Qab rfl) SetL.eq (cu rfl aS rfl rfl (Qab rfl) SetL.eq fQ))))) ?_
 refine bB fun j => ?_
 refine aF rfl (cN GI (Bq W0 _ j i rb cb clock x id n m o h v d)) ?_
 rintro _ B ⟨f, rfl, g, l⟩
 obtain rfl := g.symm
 refine aw ?_
 refine ah (kj sV (jm (us := [pV j]) (cs := []) rfl l.1 rfl (l.2 _))) ?_
 refine ar aA ?_
 exact aV (.cons (b0 dK dv rfl rfl) (.cons (aR rfl) .nil)) ao
 refine ah (aB GG (Bn n i)) ?_
 refine aC rfl (fun p => ?_) fun p => ?_
 rw [o] at p; exact absurd p (by decide)
 refine aw ?_
 refine ah (aB call287 (Lo i.op)) ?_
 rw [c]
 refine bN (fun a => ?_) fun a => ?_
 refine ah (ap CC (yz cb m.cs)) ?_
 rw [show qW x.cs = [.bool (i6 x.cs), iQ (gH x.cs), .bool (!t)] by rw [qW, b]]
 refine aa (ED rfl G7 rfl nP rfl) ?_
 refine ai (fun s => ?_) fun s => ?_
 refine ah (aB Oa (F9 n i o)) ?_
 refine ah (aB zE (wA 7 (my i))) ?_
 refine ar aA ?_
 refine aV (.cons (b0 dK dv rfl rfl) (.cons (aR rfl) .nil)) ?_
 rw [Qad (by grind)]
 exact ao
 have d : i7 i.op = true → dR x.cs = true := fun q => by
  rw [c] at q
  rw [b]
  first | (simpa using s) | (subst q; exact absurd rfl a) | exact absurd q a
 have e : (w && !t) = false := by
  grind
 rw [e, Qaa (by decide)]
 refine aa (fT Cd GH (aP py (aP tO (aP tP (aP aS fR)))) (kh rfl py rfl rfl (Qab rfl) SetRL.eq (cu rfl tO rfl rfl (Qab rfl) SetL.eq (cu rfl tP rfl rfl (Qab rfl) SetL.eq (cu rfl aS rfl rfl (Qab rfl) SetL.eq fQ))))) ?_
 refine bB fun j => ?_
 refine aF rfl (cN GI (Bq W0 _ j i rb cb clock x id n m o h v d)) ?_
 rintro _ B ⟨f, rfl, g, l⟩
 obtain rfl := g.symm
 refine aw ?_
 refine ah (kj sV (jm (us := [pV j]) (cs := []) rfl l.1 rfl (l.2 _))) ?_
 refine ar aA ?_
 exact aV (.cons (b0 dK dv rfl rfl) (.cons (aR rfl) .nil)) ao
 have d : i7 i.op = true → dR x.cs = true := fun q => by
  rw [c] at q
  rw [b]
  first | (simpa using s) | (subst q; exact absurd rfl a) | exact absurd q a
 have e : (w && !t) = false := by
  grind
 rw [e, Qaa (by decide)]
 refine aa (fT Cd GH (aP py (aP tO (aP tP (aP aS fR)))) (kh rfl py rfl rfl (Qab rfl) SetRL.eq (cu rfl tO rfl rfl (Qab rfl) SetL.eq (cu rfl tP rfl rfl (Qab rfl) SetL.eq (cu rfl aS rfl rfl (Qab rfl) SetL.eq fQ))))) ?_
 refine bB fun j => ?_
 refine aF rfl (cN GI (Bq W0 _ j i rb cb clock x id n m o h v d)) ?_
 rintro _ B ⟨f, rfl, g, l⟩
 obtain rfl := g.symm
 refine aw ?_
 refine ah (kj sV (jm (us := [pV j]) (cs := []) rfl l.1 rfl (l.2 _))) ?_
 refine ar aA ?_
 exact aV (.cons (b0 dK dv rfl rfl) (.cons (aR rfl) .nil)) ao
end
def tA (r : Int) (a0 a1 a2 : Bool) : Int :=
  let x0 := e6 .i64 r 8
  let x1 := if e6 .i64 r 4 ≠ 0 ∧ a0 = true then lD .i64 x0 4 else x0
  let x2 := if e6 .i64 r 1 ≠ 0 ∧ a1 = true then lD .i64 x1 1 else x1
  if e6 .i64 r 2 ≠ 0 ∧ a2 = true then lD .i64 x2 2 else x2
theorem a2W pg r p : ix pg r p 3 = tA r (decide (eX pg p 0 = 0)) (decide (eX pg p 1 = 0)) (decide (eX pg p 2 = 0)) := by
 grind [ix, tA, qV]
theorem a2X : ∀ n : Nat, n < 16 → ∀ a b c, (0 ≤ tA n a b c ∧ tA n a b c < 16) ∧ (e8 (tA n a b c) 1 = true → e8 n 1 = true ∧ b = true) ∧ (e8 (tA n a b c) 2 = true → e8 n 2 = true ∧ c = true) ∧ (e8 (tA n a b c) 4 = true → e8 n 4 = true ∧ a = true) ∧ (e8 (tA n a b c) 8 = true → e8 n 8 = true) := by
 decide +kernel
theorem a2Y pg (n : Nat) (d : n < 16) p : (0 ≤ ix pg n p 3 ∧ ix pg n p 3 < 16) ∧ (∀ k, jn k = true → e8 (ix pg n p 3) (iu k) = true → eX pg p k = 0) ∧ ∀ c, c = 1 ∨ c = 2 ∨ c = 4 ∨ c = 8 → e8 (ix pg n p 3) c = true → e8 n c = true := by
 obtain ⟨e, f, g, h, i⟩ := a2X n d (decide (eX pg p 0 = 0)) (decide (eX pg p 1 = 0)) (decide (eX pg p 2 = 0))
 rw [a2W]
 refine ⟨e, fun k b a => ?_, fun c j a => ?_⟩
 have b := Qar b
 rcases b with rfl | rfl | rfl
 exact Qar (h a).2
 exact Qar (f a).2
 exact Qar (g a).2
 grind
theorem a2Z {a b} (h : a / 64 = b / 64) : a / 1024 = b / 1024 := by omega
theorem a20 {fr pg root va va'} (h : WkOkM fr pg root va) (c : va' < 16384) (a : va' / 64 = va / 64) : ci fr pg root va' = ci fr pg root va ∧ eN fr pg va' root = eN fr pg va root := by
 have d := a2Z a
 have b : eN fr pg va' root = eN fr pg va root := by grind [eN]
 have e : jq fr pg va' root = jq fr pg va root := by grind [jq]
 have f : ∀ s, kO fr pg va' root s = kO fr pg va root s := fun s => by unfold kO; rw [d]
 refine ⟨?_, b⟩
 rw [ci, ci, Qad c, Qad h.lim, e, h.rb, Qad rfl, Qad rfl]
 simp only [fG]
 rw [b, f]
 unfold pN
 rw [a]
theorem a21 {fr pg root va} (h : WkOkM fr pg root va) (k : aN pg (ci fr pg root va).p = true) :
    LOk fr pg 0 ⟨ee root va, ((ci fr pg root va).p, (bH pg (ci fr pg root va).p).1, ix pg (ci fr pg root va).r (ci fr pg root va).p 3), (ci fr pg root va).root, (ci fr pg root va).leaf⟩ := by
 obtain ⟨s, l⟩ : ∃ s, ci fr pg root va = s := ⟨_, rfl⟩
 have b := h.eq
 rw [l] at b k ⊢
 have g : ∃ n : Nat, s.r = (n : Int) ∧ n < 16 := ⟨nZ (dY fr pg (eN fr pg va root) (va / 64)), by rw [b], by unfold nZ; split; decide; exact HQ _⟩
 obtain ⟨n, g, d⟩ := g
 obtain ⟨m, o, q⟩ := a2Y pg n d s.p
 rw [← g] at m o q
 have i : s.on = true := by
  rw [b]
  have t := h.lf
  unfold np at t
  show nY _ = true
  unfold nY
  split at t
  omega
  grind [rK]
 have e : s.root = root := by rw [b]
 have f : s.leaf = eN fr pg va root := by rw [b]
 refine ⟨⟨?_, ?_⟩, ⟨k, rfl⟩, o, m, fun _ _ a u v => ?_⟩
 show 0 ≤ s.root ∧ s.root < 8
 rw [e]; exact (qz.1 (Bj.1 h.rb).1).1
 show 0 ≤ s.leaf ∧ s.leaf < 8
 rw [f]; exact (qz.1 h.lt).1
 have j : a / 64 = va / 64 := by
  have : ((a / 64 : Nat) : Int) = ((va / 64 : Nat) : Int) := v
  omega
 obtain ⟨w, x⟩ := a20 h u j
 show WkOkM fr pg root a ∧ root = s.root ∧ eN fr pg a root = s.leaf ∧ (ci fr pg root a).on = true ∧ (ci fr pg root a).p = s.p ∧ ∀ c, c = 1 ∨ c = 2 ∨ c = 4 ∨ c = 8 → e8 (ix pg s.r s.p 3) c = true → e8 (ci fr pg root a).r c = true
 rw [w, x, l]
 refine ⟨Bl (by grind), e.symm, f.symm, i, rfl, fun c y z => ?_⟩
 exact q c y z
theorem MOk.fill {fr pg L T T'} (h : MOk fr pg 0 L T) {k e r l} room now (c : LOk fr pg 0 ⟨k, e, r, l⟩)
    (d : ∀ y ∈ T', y ∈ oo room now k (lu k e r l L).e (kW (mc L r l) T) ∧ (kU y.key (md k e r l L)).isSome = true) : MOk fr pg 0 (md k e r l L) T' := by
 refine ⟨h.F, by decide, h.P, h.pl, (h.ti.fill k e r l room now).sub' fun y f => QaD.2 (d y f), fun x b => ?_⟩
 rw [EN k e r l L h.ti.len] at b
 rcases QaS.1 b with q | q
 obtain ⟨z, a, rfl⟩ := QaX.1 q
 have := h.ln z (EM a).1
 unfold dN; split
 exact this.nar
 exact this
 obtain rfl : x = lu k e r l L := by simpa using q
 rcases EO k e r l L with z | z
 grind
 rw [z]; exact c.nar
theorem a22 {its T : List It} {now} l : ∀ {its T : List It}, Rep its now T → Rep (kW l its) now (kW l T) := by
 induction l with
 | nil => exact fun h => h
 | cons p l a => exact fun h => a (h.nar p)
theorem Lt l : ∀ T, (kW l T).length = T.length := by
 induction l with
 | nil => exact fun _ => rfl
 | cons p l a => exact fun T => (a _).trans (Qay _)
theorem a23 l p T : kW (l ++ [p]) T = (kW l T).map (jI p) := by simp [kW, List.foldl_append]
theorem a24 l : ∀ {T : List It}, (∀ y ∈ T, i64 y.er) → ∀ y ∈ kW l T, i64 y.er := by
 induction l with
 | nil => exact fun h => h
 | cons p l a =>
  intro T h
  refine a fun y b => ?_
  obtain ⟨z, c, rfl⟩ := QaX.1 b
  exact a0W (h z c)
theorem MOk.er {fr pg d L T} (h : MOk fr pg d L T) {its now} (a : Rep its now T) : ∀ y ∈ its, i64 y.er := fun y b => by
 obtain ⟨x, c, _, e⟩ := h.ti.sub y (a.perm.mem_iff.1 b)
 have := (h.ln x c).r
 have f : y.er = x.e.2.2 := by rw [e]; rfl
 rw [f]
 exact ⟨by omega, by omega⟩
theorem MOk.ei {fr pg d L T} (h : MOk fr pg d L T) : ∀ x ∈ L, i64 x.e.2.2 := fun x a => by
 have := (h.ln x a).r
 exact ⟨by omega, by omega⟩
theorem a25 W0 R (hK : ∀ A, bE (aQ W0 A) 1 0 jc) ba bm pv bt bs ps pm on root user va (u : va < 4294967296) kind its room now T L fr pg (hR : Rep its now T) (hT : T.length ≤ room) (hr : room ≤ 4) (hn : now < 1000000) (h : MOk fr pg 0 L T) (hw : WkOkM fr pg root va) (hp : aN pg (ci fr pg root va).p = true) o fast : sP W0 383 [pQ ba, .agg #[iQ (ci fr pg root va).p, iQ (bH pg (ci fr pg root va).p).1, iQ o, .bool fast]] (pt ba (iL bm on root user va kind) :: pt bm (cB pv bt bs) :: aU bt (its, cT room now) :: bJ bs L :: fF pv ps pm 0 fr pg R) (fun v B => v = .tuple #[] ∧ ∃ K Q L' C, Rep K C Q ∧ Q.length ≤ room ∧ MOk fr pg 0 L' Q ∧ C ≤ now + 1 ∧ (∃ x ∈ L', x.k = ee root va ∧ (x.e.2.2 = ix pg (ci fr pg root va).r (ci fr pg root va).p 3 ∨ x.e.2.2 = ig (ix pg (ci fr pg root va).r (ci fr pg root va).p 3))) ∧ B = pt ba (iL bm on root user va kind) :: pt bm (cB pv bt bs) :: aU bt (K, cT room C) :: bJ bs L' :: fF pv ps pm 0 fr pg R) := by
 have w := a21 hw hp
 obtain ⟨s, S⟩ : ∃ s, ci fr pg root va = s := ⟨_, rfl⟩
 rw [S] at w hp ⊢
 obtain ⟨f, hf⟩ : ∃ f, (bH pg s.p).1 = f := ⟨_, rfl⟩
 obtain ⟨t, I⟩ : ∃ g, ix pg s.r s.p 3 = g := ⟨_, rfl⟩
 rw [hf, I] at w
 rw [hf, I]
 have x1 : i64 t := by
  have : 0 ≤ t ∧ t < 16 := w.r
  exact ⟨by omega, by omega⟩
 have x2 : uJ s.root = true := Qai w.own.1
 have x3 : uJ s.leaf = true := Qai w.own.2
 have x4 := h.ti.len
 have M := h.ti.fill (ee root va) (s.p, f, t) s.root s.leaf room now
 have D : kU (ee root va) (md (ee root va) (s.p, f, t) s.root s.leaf L) = some (lu (ee root va) (s.p, f, t) s.root s.leaf L) := by
  have hm : lu (ee root va) (s.p, f, t) s.root s.leaf L ∈ md (ee root va) (s.p, f, t) s.root s.leaf L := by grind [EN]
  have := EP M.keys hm
  rwa [Be] at this
 have U := fun Q q => h.fill (T' := Q) room now w q
 have V : (lu (ee root va) (s.p, f, t) s.root s.leaf L).e.2.2 = t ∨ (lu (ee root va) (s.p, f, t) s.root s.leaf L).e.2.2 = ig t := by
  rcases EO (ee root va) (s.p, f, t) s.root s.leaf L with q | q
  grind
  rw [q]; exact .inr rfl
 obtain ⟨N, J⟩ : ∃ l, md (ee root va) (s.p, f, t) s.root s.leaf L = l := ⟨_, rfl⟩
 obtain ⟨z, hz⟩ : ∃ z, lu (ee root va) (s.p, f, t) s.root s.leaf L = z := ⟨_, rfl⟩
 obtain ⟨j, W⟩ : ∃ l, mc L s.root s.leaf = l := ⟨_, rfl⟩
 rw [J, hz] at D
 rw [hz] at V
 have X := Bf D
 rw [J, hz, W] at U
 rw [J] at M
 have x5 := M.len
 have xk : j.length ≤ 2 := by
  grind [mc]
 have x6 := fun l => a22 (its := its) (T := T) l hR
 have x7 := fun l => Lt l its
 have x8 := fun l => Lt l T
 have x9 := fun l => a24 l (h.er hR)
 have xl := hR.length
 refine am func383 ntmps383 ?_
 refine eH (kg rfl) fun b3 => ?_
 refine au 11 ?_
 refine cy (fun y : Nat => True) (fun y => [(0, pQ ba), (3, pQ b3), (4, pQ bm), (5, pQ y)]) (fun y => pt b3 (ag [iQ s.p, iQ f, iQ o, .bool fast] 238) :: pt y (ag (qA s) 418) :: pt ba (iL bm on root user va kind) :: pt bm (cB pv bt bs) :: aU bt (its, cT room now) :: bJ bs L :: fF pv ps pm 0 fr pg R) ?_ ?_
 refine bz [ba, bm] 16 fun b => ?_
 refine aj 0 13 b ?_
 refine eD (is := [13, 14]) (by kernel_rfl) rfl ⟨?_, ?_, trivial⟩
 refine cX (cN NN (DF pv ps pm 0 fr pg h.P h.F root va u)) ?_; clear b
 rintro _ G ⟨rfl, d⟩
 subst d
 rw [S]
 refine ⟨aT, fun b => ?_⟩
 refine bQ 14 (di Gf) ?_; clear b
 rintro _ _ ⟨y, rfl, rfl⟩
 refine ⟨aT, fun b => ?_⟩
 refine cm 15 aA fun b => ?_
 refine aJ ?_
 exact bq y trivial
 skip
 refine cX (di Gf) ?_; clear b
 rintro _ _ ⟨y, rfl, rfl⟩
 refine ⟨aT, fun b => ?_⟩
 refine bQ 13 (cN NN (DF pv ps pm 0 fr pg h.P h.F root va u)) ?_; clear b
 rintro _ G ⟨rfl, d⟩
 subst d
 rw [S]
 refine ⟨aT, fun b => ?_⟩
 refine cm 15 aA fun b => ?_
 refine aJ ?_
 exact bq y trivial
 intro y _
 refine cy (fun H : Nat => True) (fun H => [(0, pQ ba), (3, pQ b3), (4, pQ bm), (5, pQ y), (6, pQ H)]) (fun H => pt H (ag [iQ s.p, iQ f, iQ t] 49) :: pt y (ag (qA s) 418) :: pt ba (iL bm on root user va kind) :: pt bm (cB pv bt bs) :: aU bt (its, cT room now) :: bJ bs L :: fF pv ps pm 0 fr pg R) ?_ ?_
 refine bz [b3, y] 11 fun b => ?_
 refine aj 0 6 b ?_
 refine az 6 b (dj (yp (us := [.bool s.on, iQ s.r, iQ s.p]) (ws := [iQ s.fault, iQ s.root, iQ s.leaf]) (jR (k := 1) rfl) rfl)) ?_
 refine eD (is := [7, 9]) (by kernel_rfl) rfl ⟨?_, ?_, trivial⟩
 refine cX (cN call422 (L3 hK bm pv bt bs ps pm 0 s.on s.r s.p pg h.P)) ?_; clear b
 rintro _ G ⟨rfl, d⟩
 subst d
 rw [I]
 refine ⟨aT, fun b => ?_⟩
 refine aj 8 1 b ?_
 refine bQ 9 (di oE) ?_; clear b
 rintro _ _ ⟨H, rfl, rfl⟩
 refine ⟨aT, fun b => ?_⟩
 refine cm 10 aA fun b => ?_
 refine aJ ?_
 exact bq H trivial
 skip
 refine cX (di oE) ?_; clear b
 rintro _ _ ⟨H, rfl, rfl⟩
 refine ⟨aT, fun b => ?_⟩
 refine bQ 7 (cN call422 (L3 hK bm pv bt bs ps pm 0 s.on s.r s.p pg h.P)) ?_; clear b
 rintro _ G ⟨rfl, d⟩
 subst d
 rw [I]
 refine ⟨aT, fun b => ?_⟩
 refine aj 8 1 b ?_
 refine cm 10 aA fun b => ?_
 refine aJ ?_
 exact bq H trivial
 intro H _
 refine aw ?_
 refine bz [bm, ba, H, y] 17 fun b => ?_
 refine aj 0 5 b ?_
 refine aj 6 5 b ?_
 refine bY 5 (ap tW (s0 ba bm on root user va u kind)) fun b => ?_
 refine bQ 11 (ap call423 (a1S bs L x4 h.ei (ee root va) (s.p, f, t) x1 s.root s.leaf x2 x3)) ?_; clear b
 rintro _ G ⟨af, cf, rfl, d⟩
 subst d
 rw [J, W]
 refine ⟨aT, fun b => ?_⟩
 refine aj 12 5 b ?_
 refine aJ ?_
 refine ai (fun c5 => ?_) fun c5 => ?_
 exact absurd rfl c5
 refine ge (fun i : Nat => i ≤ j.length) (fun i => [(0, pQ ba), (4, pQ bm), (57, .slice af j.length cf), (58, iQ (j.length : Nat)), (59, iQ i)]) (fun i => pt ba (iL bm on root user va kind) :: pt bm (cB pv bt bs) :: aU bt (kW (j.take i) its, cT room now) :: bJ bs N :: osl 3 1 (.slice af j.length cf) (j.flatMap iI) :: fF pv ps pm 0 fr pg R) (fun i => j.length - i) 0 ?_ ?_ ?_ ?_
 omega
 · repeat (first | exact bK | refine aZ rfl ?_)
 rw [show kW (j.take 0) its = its from rfl]
 exact IO
 intro i hi
 refine aw ?_
 refine aC rfl (fun c7 => ?_) fun c7 => ?_
 refine au 5 ?_
 have O : i < j.length := by omega
 refine mr (E := 3) (sz := 1) (a := af) (c := cf) (n := j.length) iI j (fun _ => rfl) (by decide) rfl (fun S => ?_)
 obtain ⟨g, o, xa, hc⟩ := S.at_ O
 obtain ⟨q, hq⟩ : ∃ q, j[i] = q := ⟨_, rfl⟩
 have xb : j.take (i + 1) = j.take i ++ [q] := by rw [Qao O, hq]
 have xc : kW (j.take (i + 1)) its = (kW (j.take i) its).map (jI q) := by rw [xb, a23]
 have xm := x7 (j.take i)
 have xd := x9 (j.take i)
 rw [hq] at hc
 refine aw ?_
 refine aa (ek eJ aS rfl xa rfl rfl O (by first | exact Qac _ | rfl)) ?_
 refine aa (aE (bE.weak hc 0 _ rfl)) ?_
 refine ah (ap call424 (a0Z bt (kW (j.take i) its) (iQ room) (iQ now) q (by omega) xd)) ?_
 refine aa bW ?_
 refine bR (i + 1) ?_ (he := ?_)
 omega
 rw [xc]
 exact IO
 obtain rfl : i = j.length := by omega
 have Y := x6 (j.take j.length)
 have xe := x8 (j.take j.length)
 rw [Qby] at Y xe ⊢
 refine au 6 ?_
 refine cy (fun m : Nat => True) (fun m => [(0, pQ ba), (4, pQ bm), (11, pQ m), (12, .bool true)]) (fun m => pt m (ag (mN (tx (some z))) 49) :: pt ba (iL bm on root user va kind) :: pt bm (cB pv bt bs) :: aU bt (kW j its, cT room now) :: bJ bs N :: fF pv ps pm 0 fr pg R) ?_ ?_
 refine bz [bm, ba] 13 fun b => ?_
 refine aj 0 5 b ?_
 refine eD (is := [5, 10]) (by kernel_rfl) rfl ⟨?_, ?_, trivial⟩
 refine cX (ap tW (s0 ba bm on root user va u kind)) ?_; clear b
 rintro _ G ⟨rfl, d⟩
 obtain rfl := d.symm
 refine ⟨aT, fun b => ?_⟩
 refine eD (is := [6, 10]) (by kernel_rfl) rfl ⟨?_, ?_, trivial⟩
 refine cX (ap vg (tu bs N (by omega) (ee root va))) ?_; clear b
 rintro _ G ⟨rfl, d⟩
 subst d
 rw [tz, D]
 refine ⟨aT, fun b => ?_⟩
 refine aj 7 3 b ?_
 refine bQ 10 (di oE) ?_; clear b
 rintro _ _ ⟨m, rfl, rfl⟩
 refine ⟨aT, fun b => ?_⟩
 refine cm 11 aA fun b => ?_
 refine aj 12 1 b ?_
 refine aJ ?_
 exact bq m trivial
 skip
 refine cX (di oE) ?_; clear b
 rintro _ _ ⟨m, rfl, rfl⟩
 refine ⟨aT, fun b => ?_⟩
 refine bQ 6 (ap vg (tu bs N (by omega) (ee root va))) ?_; clear b
 rintro _ G ⟨rfl, d⟩
 subst d
 rw [tz, D]
 refine ⟨aT, fun b => ?_⟩
 refine aj 7 3 b ?_
 refine cm 11 aA fun b => ?_
 refine aj 12 1 b ?_
 refine aJ ?_
 exact bq m trivial
 skip
 refine cX (di oE) ?_; clear b
 rintro _ _ ⟨m, rfl, rfl⟩
 refine ⟨aT, fun b => ?_⟩
 refine bY 5 (ap tW (s0 ba bm on root user va u kind)) fun b => ?_
 refine bQ 6 (ap vg (tu bs N (by omega) (ee root va))) ?_; clear b
 rintro _ G ⟨rfl, d⟩
 subst d
 rw [tz, D]
 refine ⟨aT, fun b => ?_⟩
 refine aj 7 3 b ?_
 refine cm 11 aA fun b => ?_
 refine aj 12 1 b ?_
 refine aJ ?_
 exact bq m trivial
 intro m _
 refine aw ?_
 refine bz [bm, ba, m] 8 fun b => ?_
 refine aj 0 5 b ?_
 refine aj 6 1 b ?_
 refine bY 5 (ap tW (s0 ba bm on root user va u kind)) fun b => ?_
 refine bQ 7 (ap call382 (Ka bt (kW j its) room now (kW j T) (ee root va) z.e Y (by omega) hr hn)) ?_; clear b
 rintro _ G ⟨rfl, Z, d, xf⟩
 subst d
 have xg := K9 (now := now) (k := ee root va) (e := z.e) (show (kW j T).length ≤ room by omega)
 refine ⟨aT, fun b => ?_⟩
 refine aJ ?_
 refine aF rfl (cN call425 (a16 bm pv bt bs Z (iQ room) (iQ ((now + 1 : Nat) : Int)) (now + 1) room _ N xf xg hr x5)) ?_
 rintro _ G ⟨rfl, x0, T3, d, xh, xi, xj⟩
 subst d
 refine aw ?_
 refine bU (.inr rfl) .nil ?_
 exact ⟨_, ⟨rfl, x0, T3, N, now + 1, xh, xi, U T3 xj, by omega, ⟨z, X.1, X.2, V⟩, rfl⟩, IO⟩
theorem Fb k va : (64 * k + va % 64) / 64 = k ∧ (64 * k + va % 64) % 64 = va % 64 := by omega
structure FnOk (fr : List aD) (pg : List Pl) (root : Int) (user : Bool) (va : Nat) (kind : Int) : Prop where
  wk : WkOkM fr pg root va
  th : aN pg (ci fr pg root va).p = true
  P : eY oQ fr pg true root user va kind = (ci fr pg root va).p
  F : eY lZ fr pg true root user va kind = (bH pg (ci fr pg root va).p).1
  O : eY m0 fr pg true root user va kind = ((va % 64 : Nat) : Int)
theorem Lu {fr pg root user va kind} (h : fN fr pg true root user va kind = 0) : FnOk fr pg root user va kind := by
 obtain ⟨s, a⟩ : ∃ s, ci fr pg root va = s := ⟨_, rfl⟩
 obtain ⟨k, d, e⟩ := xE fr pg root va
 unfold fN at h
 rw [Qad rfl, a] at h
 by_cases f : s.fault ≠ 0
 omega
 rw [Qaa f] at h
 by_cases b : oR s kind user = true
 case neg => rw [Qaa b] at h; exact absurd h (by decide)
 rw [Qad b] at h
 rw [a] at d
 have i : kB s va = 64 * k + va % 64 := by rw [kB, d]; rfl
 obtain ⟨j, l⟩ := Fb k va
 have c : aN pg s.p = true := by
  grind [dD, eX]
 have m : ∀ g, eY g fr pg true root user va kind = g fr.length pg (kB s va) 1 kind := fun g => by
  unfold eY
  rw [Qad rfl, a, Qaa f, Qad b]
 refine ⟨Bl (by grind), by rw [a]; exact c, ?_, ?_, ?_⟩
 grind [oQ]
 grind [lZ]
 grind [m0]
theorem a26 {fr pg L T} (h : MOk fr pg 0 L T) {x} (y : x ∈ L) {root user va kind} (z : va < 16384) (j : x.k = ee root va) (l : pf x.e kind user = true) :
    fN fr pg true root user va kind = 0 ∧ eY oQ fr pg true root user va kind = x.e.1 ∧ eY lZ fr pg true root user va kind = x.e.2.1 ∧ eY m0 fr pg true root user va kind = (va % 64 : Nat) := by
 have d := h.ln x y
 obtain ⟨m, I, J, n, o, p⟩ := d.wk (by simp) (by simp) va z (by rw [j]; rfl)
 have A : x.k.1 = root := by rw [j]; rfl
 rw [A] at m n o p
 obtain ⟨s, f⟩ : ∃ s, ci fr pg root va = s := ⟨_, rfl⟩
 obtain ⟨k, c, q⟩ := xE fr pg root va
 have B : s.fault = 0 := by rw [← f, m.eq]
 rw [f] at n o p c
 have g : kB s va = 64 * k + va % 64 := by grind [kB]
 obtain ⟨C, K⟩ := Fb k va
 have a : x.e.1 = (k : Int) := by omega
 simp only [pf, Qan, Bool.and_true] at l
 obtain ⟨r, D, M⟩ := l
 have E : iu kind = 1 ∨ iu kind = 2 ∨ iu kind = 4 ∨ iu kind = 8 := by
  unfold iu
  rcases Qar r with rfl | rfl | rfl
  omega
  omega
  omega
 have F : oR s kind user = true := by
  grind [oR]
 have b := d.at_.1
 rw [a] at b
 have t : k < 12 := by
  simp only [aN, Qan] at b
  obtain ⟨i, N, G⟩ := kz b.1
  omega
 have O : dD fr.length pg (kB s va) 1 kind = 0 := by
  unfold dD
  rw [g, C, Qad (by grind [et]), Qad (by omega), Qad (by rw [← a]; exact d.al kind r D), Qad (h.pl.rng _ b)]
 have u : fN fr pg true root user va kind = 0 := by
  grind [fN]
 obtain ⟨_, _, v, w, H⟩ := Lu u
 rw [f, c] at v w
 exact ⟨u, by rw [v, a], by rw [w, ← d.at_.2, a], H⟩
theorem a27 {S b off k us vs} (h : bE S b off vs) (e : (vs.drop k).take us.length = us) : bE S b (off + k) us := fun i v a => by
 have c := (List.getElem?_eq_some_iff.1 a).1
 have := h (k + i) v (by
   rw [← e, List.getElem?_take] at a
   rw [Qad c, Qcl] at a
   exact a)
 rwa [← QbY] at this
theorem a28 (i : ∀ A, bE (aQ W0 A) 1 0 jc) ba bm pv bt bs ps pm on root user va (g : va < 4294967296) kind its room now T L fr pg (j : Rep its now T) (l : T.length ≤ room) (m : room ≤ 4) (n : now < 1000000) (h : MOk fr pg 0 L T) (q : WkOkM fr pg root va) (s : aN pg (ci fr pg root va).p = true) p f (t : p = (ci fr pg root va).p) (u : f = (bH pg (ci fr pg root va).p).1) o fast : sP W0 383 [pQ ba, .agg #[iQ p, iQ f, iQ o, .bool fast]] (pt ba (iL bm on root user va kind) :: pt bm (cB pv bt bs) :: aU bt (its, cT room now) :: bJ bs L :: fF pv ps pm 0 fr pg R) (fun v B => v = .tuple #[] ∧ ∃ b c d a, Rep b a c ∧ c.length ≤ room ∧ MOk fr pg 0 d c ∧ a ≤ now + 1 ∧ (∃ x ∈ d, x.k = ee root va ∧ (x.e.2.2 = ix pg (ci fr pg root va).r (ci fr pg root va).p 3 ∨ x.e.2.2 = ig (ix pg (ci fr pg root va).r (ci fr pg root va).p 3))) ∧ B = pt ba (iL bm on root user va kind) :: pt bm (cB pv bt bs) :: aU bt (b, cT room a) :: bJ bs d :: fF pv ps pm 0 fr pg R) := by
 grind [a25]
theorem a29 W0 R (E : ∀ A, bE (aQ W0 A) 1 0 jc) ba bm pv bt bs ps pm root user va (i : va < 4294967296) kind its room now T L fr pg (G : Rep its now T) (H : T.length ≤ room) (I : room ≤ 4) (J : now < 1000000) (h : MOk fr pg 0 L T) :
    bF Tryz.prog W0 334 [pQ ba] (pt ba (iL bm true root user va kind) :: pt bm (cB pv bt bs) :: aU bt (its, cT room now) :: bJ bs L :: fF pv ps pm 0 fr pg R)
      (fun v B => v = .tuple #[.agg (ut fr pg true root user va kind).toArray, iQ (fN fr pg true root user va kind)] ∧ ∃ g t u b, Rep g b t ∧ t.length ≤ room ∧ MOk fr pg 0 u t ∧ b ≤ now + 1 ∧ (fN fr pg true root user va kind = 0 → ∃ x ∈ u, x.k = ee root va ∧ (x.e.2.2 = ix pg (ci fr pg root va).r (ci fr pg root va).p 3 ∨ x.e.2.2 = ig (ix pg (ci fr pg root va).r (ci fr pg root va).p 3))) ∧ B = pt bm (cB pv bt bs) :: aU bt (g, cT room b) :: bJ bs u :: fF pv ps pm 0 fr pg R) := by
 have w := fun q => Lu (fr := fr) (pg := pg) (root := root) (user := user) (va := va) (kind := kind) q
 refine am func334 ntmps334 ?_
 refine eH (di tV) fun s => ?_
 refine au 3 ?_
 refine cy (fun c : Nat => True) (fun c => [(0, pQ ba), (2, pQ s), (4, pQ c), (5, iQ (fN fr pg true root user va kind))]) (fun c => pt s (ag [iQ 0, iQ 0, iQ 0, .bool false] 238) :: pt c (ag (ut fr pg true root user va kind) 238) :: pt ba (iL bm true root user va kind) :: pt bm (cB pv bt bs) :: aU bt (its, cT room now) :: bJ bs L :: fF pv ps pm 0 fr pg R) ?_ ?_
 refine bz [ba, bm] 26 fun a => ?_
 refine aj 0 10 a ?_
 refine az 10 a (dj (a27 (k := 1) (us := qB true root user) (jR (k := 0) rfl) rfl)) ?_
 refine aj 11 8 a ?_
 refine eD (is := [19, 23]) (by kernel_rfl) rfl ⟨?_, ?_, trivial⟩
 refine cX (cN GJ (Ar pv ps pm 0 fr pg h.P h.F true root user va i kind)) ?_; clear a
 rintro _ K ⟨rfl, j⟩
 obtain rfl := j.symm
 refine ⟨aT, fun a => ?_⟩
 refine aj 20 3 a ?_
 refine bQ 23 (di tV) ?_; clear a
 rintro _ _ ⟨c, rfl, rfl⟩
 refine ⟨aT, fun a => ?_⟩
 refine cm 24 aA fun a => ?_
 refine aj 25 1 a ?_
 refine aJ ?_
 exact bq c trivial
 skip
 refine cX (di tV) ?_; clear a
 rintro _ _ ⟨c, rfl, rfl⟩
 refine ⟨aT, fun a => ?_⟩
 refine bY 19 (cN GJ (Ar pv ps pm 0 fr pg h.P h.F true root user va i kind)) fun a => ?_
 refine aj 20 3 a ?_
 refine cm 24 aA fun a => ?_
 refine aj 25 1 a ?_
 refine aJ ?_
 exact bq c trivial
 intro c _
 refine cy (fun X : List It × List It × List Ln × Nat => Rep X.1 X.2.2.2 X.2.1 ∧ X.2.1.length ≤ room ∧ MOk fr pg 0 X.2.2.1 X.2.1 ∧ X.2.2.2 ≤ now + 1 ∧ (fN fr pg true root user va kind = 0 → ∃ x ∈ X.2.2.1, x.k = ee root va ∧ (x.e.2.2 = ix pg (ci fr pg root va).r (ci fr pg root va).p 3 ∨ x.e.2.2 = ig (ix pg (ci fr pg root va).r (ci fr pg root va).p 3)))) (fun X => [(2, pQ s), (4, pQ c), (5, iQ (fN fr pg true root user va kind))]) (fun X => pt s (ag [iQ 0, iQ 0, iQ 0, .bool false] 238) :: pt c (ag (ut fr pg true root user va kind) 238) :: pt bm (cB pv bt bs) :: aU bt (X.1, cT room X.2.2.2) :: bJ bs X.2.2.1 :: fF pv ps pm 0 fr pg R) ?_ ?_
 refine au 6 ?_
 refine ai (fun D => ?_) fun D => ?_
 obtain ⟨M, N, O, Q, S⟩ := w D
 refine aF rfl (IQ call383 rfl (a28 E ba bm pv bt bs ps pm true root user va i kind its room now T L fr pg G H I J h M N (eY oQ fr pg true root user va kind) (eY lZ fr pg true root user va kind) O Q (eY m0 fr pg true root user va kind) false)) ?_
 rintro _ K ⟨rfl, d, y, z, f, l, m, C, n, o, j⟩
 subst j
 refine aw ?_
 refine bq (d, y, z, f) ?_
 grind
 refine bq (its, T, L, now) ?_
 grind
 intro ⟨d, y, z, f⟩ ⟨l, m, C, n, o⟩
 dsimp only at l m C n o ⊢
 refine aw ?_
 refine ar aA ?_
 refine aV (.cons (b0 g8 eU rfl rfl) (.cons (aR rfl) .nil)) ?_
 exact ⟨_, ⟨rfl, d, y, z, f, l, m, C, n, o, rfl⟩, IO⟩
theorem MOk.tl {fr pg d L T T'} (h : MOk fr pg d L T) (a : TI L T') : MOk fr pg d L T' := ⟨h.F, h.dl, h.P, h.pl, a, h.ln⟩
@[reducible] def wC (ba : Nat) : List Value := [.func (.func 332) #[.pointer (some ⟨ba, 0, none⟩)] #[], .func (.func 333) #[.pointer (some ⟨ba, 0, none⟩)] #[]]
theorem a3a {W0 N e R ba bm pv bt bs on root user va kind its room now i T L fx v} (d : va < 4294967296) (m : Rep its now T) (n : T.length ≤ room) (p : room ≤ 4) (r : now < 1000000) (f : TI L T) (y : i < 2) (s : (wC ba)[i]? = some v) (t : ev e fx = some v) :
    cY Tryz.prog W0 N e (pt ba (iL bm on root user va kind) :: pt bm (cB pv bt bs) :: aU bt (its, cT room now) :: bJ bs L :: R) (.call { callee := .value fx, args := #[], argTypes := #[] })
      (fun v B => ∃ o b c a, v = .tuple #[.agg (F0 o va).toArray, .bool o.isSome] ∧ F1 L (ee root va) kind user o ∧ (i = 1 → o = none → ∀ x ∈ L, x.k = ee root va → pf x.e kind user = false) ∧ Rep b a c ∧ c.length ≤ room ∧ TI L c ∧ a ≤ now + 1 ∧ B = pt ba (iL bm on root user va kind) :: pt bm (cB pv bt bs) :: aU bt (b, cT room a) :: bJ bs L :: R) := by
 have u : i = 0 ∨ i = 1 := by omega
 rcases u with rfl | rfl
 cases s
 exact jm (us := [pQ ba]) (vs := []) (cs := []) t call332 rfl (gQ (a17 ba bm pv bt bs on root user va d kind its room now T L m n p r f) fun v B g => by
  obtain ⟨o, b, c, a, h, j, l⟩ := g
  exact ⟨B, ⟨o, b, c, a, h, j, fun q => (by cases q), l⟩, ent_refl⟩)
 cases s
 exact jm (us := [pQ ba]) (vs := []) (cs := []) t call333 rfl (gQ (a18 ba bm pv bt bs on root user va d kind its room now T L m n p r f) fun v B g => by
  obtain ⟨o, b, c, a, h, j, l, w⟩ := g
  exact ⟨B, ⟨o, b, c, a, h, j, fun _ => l, w⟩, ent_refl⟩)
structure FnX (fr : List aD) (pg : List Pl) (d : Nat) (on : Bool) (root : Int) (user : Bool) (va : Nat) (kind : Int) (L L' : List Ln) (fast : Bool) (d' : Nat) : Prop where
  hit : fast = true → (on = true ∧ fN fr pg on root user va kind = 0) ∧ ∃ x ∈ L', x.e.1 = eY oQ fr pg on root user va kind ∧ pf x.e kind user = true
  old : fast = true → ∃ x ∈ L, x.k = ee root va
  new : fast = false → on = true → va < 16384 → fN fr pg on root user va kind = 0 → ∃ x ∈ L', x.k = ee root va ∧ (x.e.2.2 = ix pg (ci fr pg root va).r (ci fr pg root va).p 3 ∨ x.e.2.2 = ig (ix pg (ci fr pg root va).r (ci fr pg root va).p 3))
  can : d = 0 → on = true → va < 16384 → ∀ x ∈ L, x.k = ee root va → pf x.e kind user = true → fast = true
  dz : on = true → va < 16384 → d' = 0
theorem Lv (hK : ∀ A, bE (aQ W0 A) 1 0 jc) bm pv bt bs ps pm d on root user (b : Nat) (j : b < 4294967296) kind its room now T L fr pg (hR : Rep its now T) (hT : T.length ≤ room) (hr : room ≤ 4) (hn : now < 900000) (h : MOk fr pg d L T) : sP W0 283 [.pointer (some ⟨bm, 0, none⟩), .agg (qB on root user).toArray, .int .u32 b, .int .i64 kind] (pt bm (cB pv bt bs) :: aU bt (its, cT room now) :: bJ bs L :: fF pv ps pm d fr pg R) (fun v B => ∃ l m T' L' c d', v = .tuple #[.agg #[.int .i64 (eY oQ fr pg on root user b kind), .int .i64 (eY lZ fr pg on root user b kind), .int .i64 (eY m0 fr pg on root user b kind), .bool l], .int .i64 (fN fr pg on root user b kind)] ∧ FnX fr pg d on root user b kind L L' l d' ∧ Rep m c T' ∧ T'.length ≤ room ∧ MOk fr pg d' L' T' ∧ c ≤ now + 3 ∧ B = pt bm (cB pv bt bs) :: aU bt (m, cT room c) :: bJ bs L' :: fF pv ps pm d' fr pg R) := by
 refine jz 2 func283 ntmps283 ?_
 refine eH (kg rfl) fun b5 => ?_
 refine eH (di tV) fun Y => ?_
 refine au 7 ?_
 refine eh 2 (ir zF rfl (wx bm pv bt bs)) ?_
 refine aC rfl (fun c1 => ?_) fun c1 => ?_
 exact absurd c1 (by decide)
 refine au 9 ?_
 refine dk rfl rfl rfl (fun E => ?_) fun E => ?_
 refine au 6 ?_
 refine fj [(bm, 0, _), (b5, 0, _)] 12 mixed rfl (bL (bL aW)) (fun a => ?_)
 refine aj 0 4 a ?_
 refine dr 4 rfl rfl rfl a (iS C4 wO rfl (by first | exact jR (k := 0) rfl | exact jR (k := 1) rfl) rfl) ?_
 refine aj 5 2 a ?_
 refine fD 7 rfl rfl (vq GJ rfl (Ar pv ps pm d fr pg h.P h.F on root user b j kind)) (bL (bL aW)) fun a => ?_
 refine aj 8 2 a ?_
 refine iC 10 rfl rfl (gi eU rfl rfl rfl rfl rfl) (bL (bL aW)) fun a => ?_
 refine aj 11 1 a ?_
 refine hQ ?_
 refine au 3 ?_
 refine aV (.cons (b0 g8 eU rfl rfl) (.cons (aR rfl) .nil)) ?_
 exact ⟨_, ⟨false, its, T, L, now, d, rfl, ⟨fun q => (by cases q), fun q => (by cases q), fun _ G H => (by first | omega | simp_all), fun _ G H => (by first | omega | simp_all), fun G H => (by first | omega | simp_all)⟩, hR, hT, h, by omega, rfl⟩, IO⟩
 refine au 6 ?_
 refine aC rfl (fun c3 => ?_) fun c3 => ?_
 refine aO ?_
 refine fj [(bm, 0, _), (b5, 0, _)] 12 mixed rfl (bL (bL aW)) (fun a => ?_)
 refine aj 0 4 a ?_
 refine dr 4 rfl rfl rfl a (iS C4 wO rfl (by first | exact jR (k := 0) rfl | exact jR (k := 1) rfl) rfl) ?_
 refine aj 5 2 a ?_
 refine fD 7 rfl rfl (vq GJ rfl (Ar pv ps pm d fr pg h.P h.F on root user b j kind)) (bL (bL aW)) fun a => ?_
 refine aj 8 2 a ?_
 refine iC 10 rfl rfl (gi eU rfl rfl rfl rfl rfl) (bL (bL aW)) fun a => ?_
 refine aj 11 1 a ?_
 refine hQ ?_
 refine au 3 ?_
 refine aV (.cons (b0 g8 eU rfl rfl) (.cons (aR rfl) .nil)) ?_
 exact ⟨_, ⟨false, its, T, L, now, d, rfl, ⟨fun q => (by cases q), fun q => (by cases q), fun _ G H => (by first | omega | simp_all), fun _ G H => (by first | omega | simp_all), fun G H => (by first | omega | simp_all)⟩, hR, hT, h, by omega, rfl⟩, IO⟩
 refine au 3 ?_
 obtain rfl : on = true := by cases on <;> simp_all
 have x0 : b < 16384 := by omega
 refine au 2 ?_
 refine aF rfl (lW GK rfl (EY bm pv bt bs ps pm d its (.int .i64 room) (.int .i64 now) now room T L fr pg hR hT hr h)) ?_
 rintro _ B_ ⟨rfl, n, T1, p, f, x1, x2, Z, I, w⟩
 subst f
 have x3 : d = 0 → p = L := fun q => w (by rw [q]; decide)
 refine au 8 ?_
 refine ae rfl (fT a7I zeroValue451 (aP Nl (aP wO (aP aX (aP aS fR)))) (cu rfl Nl rfl rfl (Qab rfl) SetL.eq (kh rfl wO rfl rfl (Qab rfl) SetRL.eq (cu rfl aX rfl rfl (Qab rfl) SetL.eq (cu rfl aS rfl rfl (Qab rfl) SetL.eq fQ))))) ?_
 refine eH (kg rfl) fun g => ?_
 refine au 7 ?_
 refine ae rfl (xj rfl rfl) ?_
 refine ae rfl (aM rfl) (ae rfl (xj rfl rfl) ?_)
 refine eH (jP Ny sizeOf452 zeroValue452 rfl rfl rfl rfl rfl (by decide) (by decide)) fun bl => ?_
 refine au 5 ?_
 refine ge (fun X : Nat × List It × List It × Nat => X.1 ≤ 2 ∧ Rep X.2.1 X.2.2.2 X.2.2.1 ∧ X.2.2.1.length ≤ room ∧ TI p X.2.2.1 ∧ X.2.2.2 ≤ now + X.1 ∧ (X.1 = 2 → ∀ x ∈ p, x.k = ee root b → pf x.e kind user = false)) (fun X => [(8, .pointer (some ⟨Y, 0, none⟩)), (10, .pointer (some ⟨g, 0, none⟩)), (47, .slice (some ⟨bl, 0, none⟩) 2 2), (48, .int .i64 2), (49, .int .i64 X.1)]) (fun X => pt bl (ag (wC g) 452) :: pt Y (ag [.int .i64 0, .int .i64 0, .int .i64 0, .bool false] 238) :: pt g (iL bm true root user b kind) :: pt bm (cB pv bt bs) :: aU bt (X.2.1, cT room X.2.2.2) :: bJ bs p :: fF pv ps pm 0 fr pg R) (fun X => 2 - X.1) (0, n, T1, now) ?_ ?_ ?_ ?_
 exact ⟨QaG _, x1, x2, Z.ti, Qam _, fun q => absurd (show (0 : Nat) = 2 from q) (by decide)⟩
 · repeat (first | exact bK | refine aZ rfl ?_)
 show Ent _ (pt bl (ag (wC g) 452) :: pt Y (ag [.int .i64 0, .int .i64 0, .int .i64 0, .bool false] 238) :: pt g (iL bm true root user b kind) :: pt bm (cB pv bt bs) :: aU bt (n, cT room now) :: bJ bs p :: fF pv ps pm 0 fr pg R)
 exact IO
 intro ⟨i, r, T2, J⟩ ⟨hi, y, z, C, x4, s⟩
 dsimp only at hi y z C x4 s ⊢
 refine au 6 ?_
 refine aC rfl (fun c8 => ?_) fun c8 => ?_
 refine au 5 ?_
 have D : i < 2 := by omega
 have x5 : i < (wC g).length := D
 obtain ⟨fv, K⟩ : ∃ v, (wC g)[i]? = some v := ⟨_, QaV x5⟩
 refine aY ?_
 refine ae rfl (jQ Ny sizeOf452 rfl rfl rfl D (by first | exact Qac _ | rfl)) ?_
 refine jS 6 (co isAgg452 rfl (aI (by rw [Qaz]; exact K))) ?_
 refine aF rfl (rF inferInstance (a3a (R := pt bl (ag (wC g) 452) :: pt Y (ag [.int .i64 0, .int .i64 0, .int .i64 0, .bool false] 238) :: fF pv ps pm 0 fr pg R) (ba := g) (bm := bm) (pv := pv) (bt := bt) (bs := bs) (on := true) (root := root) (user := user) (kind := kind) (its := r) (L := p) j y z hr (by omega) C D K rfl)) ?_
 rintro _ B_ ⟨o, t, T3, u, rfl, x6, x7, M, N, O, xc, f⟩
 subst f
 refine au 3 ?_
 refine eH (di tV) fun xd => ?_
 refine iB 8 (gi eU rfl rfl rfl rfl rfl) ?_
 refine aC rfl (fun x8 => ?_) fun x8 => ?_
 refine au 3 ?_
 refine iB 9 (gi eU rfl rfl rfl rfl rfl) ?_
 refine aV (.cons (b0 g8 eU rfl rfl) (.cons (aR rfl) .nil)) ?_
 obtain ⟨x, rfl⟩ : ∃ x, o = some x := by cases o <;> simp_all
 obtain ⟨Q, S, U⟩ := x6 x rfl
 obtain ⟨e0, e1, e2, e3⟩ := a26 Z Q x0 S U
 refine ⟨_, ⟨true, t, T3, p, u, 0, ?_, ⟨fun _ => ⟨⟨rfl, e0⟩, x, Q, e1.symm, U⟩, fun _ => ⟨x, I x Q, S⟩, fun q => (by cases q), fun _ _ _ _ _ _ _ => rfl, fun _ _ => rfl⟩, M, N, Z.tl O, by omega, rfl⟩, IO⟩
 rw [e0, e1, e2, e3]; rfl
 refine au 4 ?_
 refine jS 3 (OU rfl rfl) ?_
 exact bR (i + 1, t, T3, u) (⟨by omega, M, N, O, by dsimp only; omega, fun q => x7 (by dsimp only at q; omega) (by cases o <;> simp_all)⟩)
 refine au 6 ?_
 obtain rfl : i = 2 := by omega
 have h2 := Z.tl C
 refine au 2 ?_
 refine aF rfl (IQ call334 rfl (a29 W0 _ hK g bm pv bt bs ps pm root user b j kind r room J T2 p fr pg y z hr (by omega) h2)) ?_
 rintro _ B_ ⟨rfl, V, T4, L4, W, x9, xa, h4, xe, xb, f⟩
 subst f
 refine au 2 ?_
 refine iB 4 (gi eU rfl rfl rfl rfl rfl) ?_
 refine aV (.cons (b0 g8 eU rfl rfl) (.cons (aR rfl) .nil)) ?_
 exact ⟨_, ⟨false, V, T4, L4, W, 0, rfl, ⟨fun q => (by cases q), fun q => (by cases q), fun _ _ _ q => xb q, fun q _ _ x Q hk hm => (by
   rw [s rfl x (by rw [x3 q]; exact Q) hk] at hm; cases hm), fun _ _ => rfl⟩, x9, xa, h4, by omega, rfl⟩, IO⟩
theorem Lw {fr pg on root user va kind} (h : fN fr pg on root user va kind = 0) :
    ∃ b, b < 768 ∧ b % 64 = va % 64 ∧ dD fr.length pg b 1 kind = 0 ∧ eY oQ fr pg on root user va kind = (b / 64 : Nat) ∧ eY lZ fr pg on root user va kind = (bH pg (b / 64 : Nat)).1 ∧ eY m0 fr pg on root user va kind = (b % 64 : Nat) := by
 cases on with
 | false =>
  have a : ∀ g, eY g fr pg false root user va kind = g fr.length pg va 1 kind := fun g => by unfold eY; rw [Qaa (by decide)]
  have h : dD fr.length pg va 1 kind = 0 := by grind [fN]
  exact ⟨va, (xx h).1, rfl, h, by rw [a, oQ, Qad h], by rw [a, lZ, Qad h], by rw [a, m0, Qad h]⟩
 | true =>
  obtain ⟨s, c⟩ : ∃ s, ci fr pg root va = s := ⟨_, rfl⟩
  obtain ⟨k, f, i⟩ := xE fr pg root va
  unfold fN at h
  rw [Qad rfl, c] at h
  by_cases j : s.fault ≠ 0
  omega
  rw [Qaa j] at h
  by_cases d : oR s kind user = true
  case neg => rw [Qaa d] at h; exact absurd h (by decide)
  rw [Qad d] at h
  rw [c] at f
  have e : kB s va = 64 * k + va % 64 := by rw [kB, f]; rfl
  obtain ⟨m, l⟩ := Fb k va
  have a : ∀ g, eY g fr pg true root user va kind = g fr.length pg (kB s va) 1 kind := fun g => by
   unfold eY
   rw [Qad rfl, c, Qaa j, Qad d]
  exact ⟨kB s va, (xx h).1, by rw [e, l], h, by rw [a, oQ, Qad h], by rw [a, lZ, Qad h], by rw [a, m0, Qad h]⟩
theorem a9y {va pa w} (h : et va w = true) (e : pa % 64 = va % 64) : et pa w = true := by
 have := Qar h
 refine Qai ⟨this.1, ?_⟩
 obtain ⟨a | a | a, b⟩ := this <;> subst a <;> omega
theorem a3b {n pg va pa w kind} (h : dD n pg pa 1 kind = 0) (a : et va w = true) (e : pa % 64 = va % 64) : dD n pg pa w kind = 0 := by
 grind [et, dD]
theorem Lx {n pg pa kind} (h : dD n pg pa 1 kind = 0) : aN pg (pa / 64 : Nat) = true := by
 grind [et, dD, eX]
def pj (fr : List aD) (pg : List Pl) (on : Bool) (root : Int) (user : Bool) (va : Nat) (w kind : Int) : Nat := if et va w then (if fN fr pg on root user va kind = 0 then kx fr (eY lZ fr pg on root user va kind) (eY m0 fr pg on root user va kind) w else 0) else 0
def lL (fr : List aD) (pg : List Pl) (on : Bool) (root : Int) (user : Bool) (va : Nat) (w kind : Int) : Int := if et va w then fN fr pg on root user va kind else 1
def lM (fr : List aD) (pg : List Pl) (on : Bool) (root : Int) (user : Bool) (va : Nat) (w : Int) (x : Nat) : List aD := if et va w then (if fN fr pg on root user va 2 = 0 then fM fr (eY lZ fr pg on root user va 2) (eY m0 fr pg on root user va 2) w x else fr) else fr
theorem Ly (d : Nat) (e : d < 4294967296) w : sQ W0 282 [.int .u32 d, iQ w] R (.bool (et d w)) R := by
 refine am func282 ntmps282 ?_
 refine cn (fun b => ?_) fun b => ?_
 refine aa (bG (cZ (by omega))) ?_
 refine aa (dV rfl rfl (by omega) (Qat (by omega))) ?_
 refine ac ?_
 refine aG ?_
 refine Qah Value.bool ?_
 rw [Qag]; simp only [et, Qak, QaZ]
 first
   | omega
   | (simp only [Qaq, QaR]; omega)
   | (constructor <;> intro q <;> simp_all <;> omega)
 refine cn (fun c => ?_) fun c => ?_
 refine aa (bG (cZ (by omega))) ?_
 refine aa (dV rfl rfl (by omega) (Qat (by omega))) ?_
 refine ac ?_
 refine aG ?_
 refine Qah Value.bool ?_
 rw [Qag]; simp only [et, Qak, QaZ]
 first
   | omega
   | (simp only [Qaq, QaR]; omega)
   | (constructor <;> intro q <;> simp_all <;> omega)
 refine bN (fun a => ?_) fun a => ?_
 refine aa (bG (cZ (by omega))) ?_
 refine aa (dV rfl rfl (by omega) (Qat (by omega))) ?_
 refine ac ?_
 refine aG ?_
 refine Qah Value.bool ?_
 rw [Qag]; simp only [et, Qak, QaZ]
 first
   | omega
   | (simp only [Qaq, QaR]; omega)
   | (constructor <;> intro q <;> simp_all <;> omega)
 refine ac ?_
 refine aG ?_
 refine Qah Value.bool ?_
 rw [Qag]; simp only [et, Qak, QaZ]
 first
   | omega
   | (simp only [Qaq, QaR]; omega)
   | (constructor <;> intro q <;> simp_all <;> omega)
theorem Lz qv qs qm d fr pg (h : Pgs pg) (m : cz fr) on root user (c : Nat) (k : c < 4294967296) w kind : sQ W0 143 [pQ qv, .agg (qB on root user).toArray, .int .u32 c, iQ w, iQ kind] (iF qv qs qm d fr pg R) (.tuple #[.int .u32 (pj fr pg on root user c w kind), iQ (lL fr pg on root user c w kind)]) (iF qv qs qm d fr pg R) := by
 obtain ⟨i, q⟩ : ∃ a, et c w = a := ⟨_, rfl⟩
 have e : i = true ↔ (w = 1 ∨ w = 2 ∨ w = 4) ∧ (c : Int) % w = 0 := by grind [et]
 rw [pj, lL, q]
 refine am func143 ntmps143 ?_
 refine bB fun r => ?_
 refine bN (fun n => ?_) fun n => ?_
 refine bN (fun o => ?_) fun o => ?_
 refine cn (fun l => ?_) fun l => ?_
 refine ax ?_
 have b : i = false := by grind
 exact ⟨_, ⟨by rw [b]; rfl, rfl⟩, IO⟩
 refine aa (bG (cZ (by omega))) ?_
 refine aa (dV rfl rfl (by omega) (Qat (by omega))) ?_
 refine ai (fun p => ?_) fun p => ?_
 refine ax ?_
 have b : i = false := by grind
 exact ⟨_, ⟨by rw [b]; rfl, rfl⟩, IO⟩
 have b : i = true := e.2 (by omega)
 rw [b, Qad rfl, Qad rfl]
 refine ah (cN zG (vW qv qs qm d fr pg h m on root user c k kind)) ?_
 refine bu fun f => ?_
 refine ar aA ?_
 refine ai (fun j => ?_) fun j => ?_
 refine ax ?_
 rw [Qaa j]
 exact ao
 rw [Qad (by omega)]
 refine bz [qv, f] 15 fun g => ?_
 refine aj 0 9 g ?_
 refine bY 9 (ap Gp (Ah qs fr _ _ w m)) fun g => ?_
 refine aj 10 5 g ?_
 refine aJ ?_
 refine ax ?_
 exact ⟨_, ⟨by rw [show fN fr pg on root user c kind = 0 by omega] <;> rfl, rfl⟩, IO⟩
 refine aa (bG (cZ (by omega))) ?_
 refine aa (dV rfl rfl (by omega) (Qat (by omega))) ?_
 refine ai (fun p => ?_) fun p => ?_
 refine ax ?_
 have b : i = false := by grind
 exact ⟨_, ⟨by rw [b]; rfl, rfl⟩, IO⟩
 have b : i = true := e.2 (by omega)
 rw [b, Qad rfl, Qad rfl]
 refine ah (cN zG (vW qv qs qm d fr pg h m on root user c k kind)) ?_
 refine bu fun f => ?_
 refine ar aA ?_
 refine ai (fun j => ?_) fun j => ?_
 refine ax ?_
 rw [Qaa j]
 exact ao
 rw [Qad (by omega)]
 refine bz [qv, f] 15 fun g => ?_
 refine aj 0 9 g ?_
 refine bY 9 (ap Gp (Ah qs fr _ _ w m)) fun g => ?_
 refine aj 10 5 g ?_
 refine aJ ?_
 refine ax ?_
 exact ⟨_, ⟨by rw [show fN fr pg on root user c kind = 0 by omega] <;> rfl, rfl⟩, IO⟩
 refine aa (bG (cZ (by omega))) ?_
 refine aa (dV rfl rfl (by omega) (Qat (by omega))) ?_
 refine ai (fun p => ?_) fun p => ?_
 refine ax ?_
 have b : i = false := by grind
 exact ⟨_, ⟨by rw [b]; rfl, rfl⟩, IO⟩
 have b : i = true := e.2 (by omega)
 rw [b, Qad rfl, Qad rfl]
 refine ah (cN zG (vW qv qs qm d fr pg h m on root user c k kind)) ?_
 refine bu fun f => ?_
 refine ar aA ?_
 refine ai (fun j => ?_) fun j => ?_
 refine ax ?_
 rw [Qaa j]
 exact ao
 rw [Qad (by omega)]
 refine bz [qv, f] 15 fun g => ?_
 refine aj 0 9 g ?_
 refine bY 9 (ap Gp (Ah qs fr _ _ w m)) fun g => ?_
 refine aj 10 5 g ?_
 refine aJ ?_
 refine ax ?_
 exact ⟨_, ⟨by rw [show fN fr pg on root user c kind = 0 by omega] <;> rfl, rfl⟩, IO⟩
theorem a3c qv qs qm d fr pg (h : Pgs pg) (m : cz fr) on root user (b : Nat) (k : b < 4294967296) w (x : Nat) (q : x < 4294967296) : sQ W0 231 [pQ qv, .agg (qB on root user).toArray, .int .u32 b, iQ w, .int .u32 x] (iF qv qs qm d fr pg R) (iQ (lL fr pg on root user b w 2)) (iF qv qs qm d (lM fr pg on root user b w x) pg R) := by
 obtain ⟨i, r⟩ : ∃ a, et b w = a := ⟨_, rfl⟩
 have e : i = true ↔ (w = 1 ∨ w = 2 ∨ w = 4) ∧ (b : Int) % w = 0 := by grind [et]
 rw [lM, lL, r]
 refine am func231 ntmps231 ?_
 refine bB fun s => ?_
 refine bN (fun n => ?_) fun n => ?_
 refine bN (fun o => ?_) fun o => ?_
 refine cn (fun l => ?_) fun l => ?_
 refine ac ?_
 have c : i = false := by grind
 rw [c, Qaa (by decide), Qaa (by decide)]
 exact ao
 refine aa (bG (cZ (by omega))) ?_
 refine aa (dV rfl rfl (by omega) (Qat (by omega))) ?_
 refine ai (fun p => ?_) fun p => ?_
 refine ac ?_
 have c : i = false := by grind
 rw [c, Qaa (by decide), Qaa (by decide)]
 exact ao
 have c : i = true := e.2 (by omega)
 rw [c, Qad rfl, Qad rfl]
 refine ah (cN zG (vW qv qs qm d fr pg h m on root user b k 2)) ?_
 refine bu fun f => ?_
 refine iB 3 aA ?_
 refine cy (fun _ : Unit => True) (fun _ => [(12, iQ (fN fr pg on root user b 2))]) (fun _ => iF qv qs qm d (if fN fr pg on root user b 2 = 0 then fM fr (eY lZ fr pg on root user b 2) (eY m0 fr pg on root user b 2) w x else fr) pg R) ?_ ?_
 refine au 6 ?_
 refine ai (fun g => ?_) fun g => ?_
 refine bz [qv, f] 11 fun j => ?_
 refine aj 0 10 j ?_
 refine bY 10 (ap Cn (xy qs fr _ _ w x q m)) fun j => ?_
 refine aJ ?_
 refine bq () ?_ (he := ?_)
 trivial
 rw [Qad g]
 exact IO
 refine bq () ?_ (he := ?_)
 trivial
 rw [Qaa g]
 exact IO
 intro _ _
 refine aw ?_
 exact ac ao
 refine aa (bG (cZ (by omega))) ?_
 refine aa (dV rfl rfl (by omega) (Qat (by omega))) ?_
 refine ai (fun p => ?_) fun p => ?_
 refine ac ?_
 have c : i = false := by grind
 rw [c, Qaa (by decide), Qaa (by decide)]
 exact ao
 have c : i = true := e.2 (by omega)
 rw [c, Qad rfl, Qad rfl]
 refine ah (cN zG (vW qv qs qm d fr pg h m on root user b k 2)) ?_
 refine bu fun f => ?_
 refine iB 3 aA ?_
 refine cy (fun _ : Unit => True) (fun _ => [(12, iQ (fN fr pg on root user b 2))]) (fun _ => iF qv qs qm d (if fN fr pg on root user b 2 = 0 then fM fr (eY lZ fr pg on root user b 2) (eY m0 fr pg on root user b 2) w x else fr) pg R) ?_ ?_
 refine au 6 ?_
 refine ai (fun g => ?_) fun g => ?_
 refine bz [qv, f] 11 fun j => ?_
 refine aj 0 10 j ?_
 refine bY 10 (ap Cn (xy qs fr _ _ w x q m)) fun j => ?_
 refine aJ ?_
 refine bq () ?_ (he := ?_)
 trivial
 rw [Qad g]
 exact IO
 refine bq () ?_ (he := ?_)
 trivial
 rw [Qaa g]
 exact IO
 intro _ _
 refine aw ?_
 exact ac ao
 refine aa (bG (cZ (by omega))) ?_
 refine aa (dV rfl rfl (by omega) (Qat (by omega))) ?_
 refine ai (fun p => ?_) fun p => ?_
 refine ac ?_
 have c : i = false := by grind
 rw [c, Qaa (by decide), Qaa (by decide)]
 exact ao
 have c : i = true := e.2 (by omega)
 rw [c, Qad rfl, Qad rfl]
 refine ah (cN zG (vW qv qs qm d fr pg h m on root user b k 2)) ?_
 refine bu fun f => ?_
 refine iB 3 aA ?_
 refine cy (fun _ : Unit => True) (fun _ => [(12, iQ (fN fr pg on root user b 2))]) (fun _ => iF qv qs qm d (if fN fr pg on root user b 2 = 0 then fM fr (eY lZ fr pg on root user b 2) (eY m0 fr pg on root user b 2) w x else fr) pg R) ?_ ?_
 refine au 6 ?_
 refine ai (fun g => ?_) fun g => ?_
 refine bz [qv, f] 11 fun j => ?_
 refine aj 0 10 j ?_
 refine bY 10 (ap Cn (xy qs fr _ _ w x q m)) fun j => ?_
 refine aJ ?_
 refine bq () ?_ (he := ?_)
 trivial
 rw [Qad g]
 exact IO
 refine bq () ?_ (he := ?_)
 trivial
 rw [Qaa g]
 exact IO
 intro _ _
 refine aw ?_
 exact ac ao
theorem a3d W0 R (J : ∀ A, bE (aQ W0 A) 1 0 jc) bm pv bt bs ps pm d on root user (c : Nat) (i : c < 4294967296) w kind its room now T L fr pg (u : Rep its now T) (x : T.length ≤ room) (K : room ≤ 4) (M : now < 900000) (h : MOk fr pg d L T) :
    bF Tryz.prog W0 207 [pQ bm, .agg (qB on root user).toArray, .int .u32 c, iQ w, iQ kind] (pt bm (cB pv bt bs) :: aU bt (its, cT room now) :: bJ bs L :: fF pv ps pm d fr pg R)
      (fun v B => v = .tuple #[.int .u32 (pj fr pg on root user c w kind), iQ (lL fr pg on root user c w kind)] ∧ ∃ e o y b z, Rep e b o ∧ o.length ≤ room ∧ MOk fr pg z y o ∧ b ≤ now + 3 ∧ B = pt bm (cB pv bt bs) :: aU bt (e, cT room b) :: bJ bs y :: fF pv ps pm z fr pg R) := by
 obtain ⟨C, j⟩ : ∃ a, et c w = a := ⟨_, rfl⟩
 rw [pj, lL, j]
 refine am func207 ntmps207 ?_
 refine bB fun O => ?_
 refine ah (ap zF (wx bm pv bt bs)) ?_
 refine ah (aB call282 (Ly c i w)) ?_
 rw [j]
 refine ai (fun N => ?_) fun N => ?_
 refine ax ?_
 have p : C = false := by grind
 rw [p, Qaa (by decide), Qaa (by decide)]
 exact ⟨_, ⟨rfl, its, T, L, now, d, u, x, h, by omega, rfl⟩, IO⟩
 have p : C = true := by grind
 rw [p, Qad rfl, Qad rfl]
 refine aF rfl (vF call283 rfl (Lv J bm pv bt bs ps pm d on root user c i kind its room now T L fr pg u x K M h)) ?_
 rintro _ P ⟨D, f, E, G, g, q, rfl, r, k, l, H, m, s⟩
 subst s
 refine aw ?_
 refine bu fun t => ?_
 refine ar aA ?_
 refine ai (fun I => ?_) fun I => ?_
 refine ax ?_
 rw [Qaa I]
 exact ⟨_, ⟨rfl, f, E, G, g, q, k, l, H, m, rfl⟩, IO⟩
 rw [Qad (by omega)]
 refine bz [bm, t] 16 fun n => ?_
 refine aj 0 4 n ?_
 refine aj 5 5 n ?_
 refine bY 4 (ap Ob (Dq pv ps pm q)) fun n => ?_
 refine bY 10 (ap call91 (I6 ps fr _ _ w h.F)) fun n => ?_
 refine aj 11 5 n ?_
 refine aJ ?_
 refine ax ?_
 exact ⟨_, ⟨by rw [show fN fr pg on root user c kind = 0 by omega] <;> rfl, f, E, G, g, q, k, l, H, m, rfl⟩, IO⟩
theorem a3e {n : Nat} (h : n < 16) (b : e8 n 2 = true) : wB n = true := by
 have a : ∀ n : Nat, n < 16 → e8 (n : Int) 2 = true → wB (n : Int) = true := by decide +kernel
 exact a n h b
theorem Br {d p t} (h : Nat.testBit (d ||| 2 ^ p) t = false) : Nat.testBit d t = false ∧ t ≠ p := by
 grind
theorem a3f W0 R (hK : ∀ A, bE (aQ W0 A) 1 0 jc) bm pv bt bs ps pm d on root user (l : Nat) (H : l < 4294967296) w (x : Nat) (hx : x < 4294967296) its room now T L fr pg (hR : Rep its now T) (hT : T.length ≤ room) (hr : room ≤ 4) (U : now < 900000) (h : MOk fr pg d L T) :
    bF Tryz.prog W0 349 [pQ bm, .agg (qB on root user).toArray, .int .u32 l, iQ w, .int .u32 x] (pt bm (cB pv bt bs) :: aU bt (its, cT room now) :: bJ bs L :: fF pv ps pm d fr pg R)
      (fun v B => v = iQ (lL fr pg on root user l w 2) ∧ ∃ m V L' i d', Rep m i V ∧ V.length ≤ room ∧ MOk (lM fr pg on root user l w x) pg d' L' V ∧ i ≤ now + 3 ∧ B = pt bm (cB pv bt bs) :: aU bt (m, cT room i) :: bJ bs L' :: fF pv ps pm d' (lM fr pg on root user l w x) pg R) := by
 obtain ⟨al, p⟩ : ∃ a, et l w = a := ⟨_, rfl⟩
 rw [lM, lL, p]
 have I := fun q => Lw (fr := fr) (pg := pg) (on := on) (root := root) (user := user) (va := l) (kind := 2) q
 obtain ⟨E, N⟩ : ∃ e, fN fr pg on root user l 2 = e := ⟨_, rfl⟩
 rw [N] at I
 refine am func349 ntmps349 ?_
 refine bB fun b6 => ?_
 refine ah (ap zF (wx bm pv bt bs)) ?_
 refine ah (aB call282 (Ly l H w)) ?_
 rw [p]
 refine ai (fun c3 => ?_) fun c3 => ?_
 refine ac ?_
 have O : al = false := by grind
 rw [O, Qaa (by decide), Qaa (by decide)]
 exact ⟨_, ⟨rfl, its, T, L, now, d, hR, hT, h, by omega, rfl⟩, IO⟩
 have O : al = true := by grind
 rw [O, Qad rfl, Qad rfl, N]
 refine aF rfl (vF call283 rfl (Lv hK bm pv bt bs ps pm d on root user l H 2 its room now T L fr pg hR hT hr U h)) ?_
 rintro _ B_ ⟨x4, j, W, Q, k, o, rfl, b, s, u, g, C, D⟩
 subst D
 rw [N]
 replace b := b.hit
 rw [N] at b
 refine aw ?_
 refine bu fun J => ?_
 refine ar aA ?_
 refine ai (fun c6 => ?_) fun c6 => ?_
 refine ac ?_
 rw [Qaa c6]
 exact ⟨_, ⟨rfl, j, W, Q, k, o, s, u, g, C, rfl⟩, IO⟩
 obtain rfl : E = 0 := by omega
 rw [Qad rfl]
 obtain ⟨f, p1, p2, p3, p4, p5, p6⟩ := I rfl
 have K := Lx p3
 have X := a3b (w := w) p3 (p.trans O) p2
 rw [p4, p5, p6]
 rw [p4] at b
 refine ai (fun c8 => ?_) fun c8 => ?_
 have Y : ∀ y ∈ Q, ∀ t, t = y.rt ∨ t = y.lf → Nat.testBit o t.toNat = false → t ≠ ((f / 64 : Nat) : Int) := fun y Z t ht _ e => by
  obtain ⟨_, z, hz, e1, hm⟩ := b (by simp_all)
  simp only [pf, Qan] at hm
  have x5 := (g.ln z hz).r
  have S : e8 z.e.2.2 2 = true := hm.1.2.1
  have hw : wB z.e.2.2 = true := by
   obtain ⟨n, U⟩ : ∃ n : Nat, z.e.2.2 = (n : Int) := ⟨z.e.2.2.toNat, by omega⟩
   rw [U] at S ⊢
   exact a3e (by omega) S
  have M := g.ti.nowr z hz hw
  rw [← Qau, uH] at M
  exact M ⟨y, Z, by rw [tq, e1, ← e]; exact ht.imp QcW QcW⟩
 have G := g.save K ((f % 64 : Nat) : Int) w x g.dl (fun t q => q) Y
 refine bz [bm, J] 12 fun c => ?_
 refine aj 0 4 c ?_
 refine aj 5 6 c ?_
 refine bY 4 (ap Ob (Dq pv ps pm o)) fun c => ?_
 refine bY 11 (ap NJ (Dm ps fr _ _ w x hx g.F)) fun c => ?_
 refine aJ ?_
 refine ac ?_
 exact ⟨_, ⟨rfl, j, W, Q, k, o, s, u, G, C, rfl⟩, IO⟩
 have x0 : f / 64 < 12 := by omega
 have x1 : o ||| 2 ^ (f / 64) < 4096 := Qcc (n := 12) g.dl (Dp x0)
 have G := g.save K ((f % 64 : Nat) : Int) w x x1 (fun t q => (Br q).1) (fun y Z t ht S e => by
  have h1 := (g.ln y Z).own
  have h3 := (Br S).2
  rcases ht with rfl | rfl <;> omega)
 have x2 : kN fr pg f w x = fM fr (bH pg ((f / 64 : Nat) : Int)).1 ((f % 64 : Nat) : Int) w x := by grind [kN]
 have x3 : pL fr pg f w o = o ||| 2 ^ (f / 64) := by grind [pL]
 refine bz [bm, J] 15 fun c => ?_
 refine aj 0 6 c ?_
 refine az 6 c (lc (64 * (f / 64))) ?_
 refine aj 7 2 c ?_
 refine az 9 c (dQ f) ?_
 refine az 10 c (bG (cZ (by omega))) ?_
 refine aj 11 2 c ?_
 refine bQ 13 (cN call55 (I9 pv ps pm o fr pg g.P g.F g.dl f (by omega) w x hx)) ?_; clear c
 rintro _ B_ ⟨rfl, D⟩
 subst D
 rw [x2, x3, X]
 refine ⟨aT, fun c => ?_⟩
 refine aj 14 1 c ?_
 refine aJ ?_
 refine ac ?_
 exact ⟨_, ⟨rfl, j, W, Q, k, _, s, u, G, C, rfl⟩, IO⟩
theorem LA {pg n m p} (h : m ≠ n) : ew (pg.set n p) m = ew pg m := by
 grind [ew]
theorem gr {pg} {n : Nat} {t p} (h : t ≠ (n : Int)) : aN (pg.set n p) t = aN pg t ∧ bH (pg.set n p) t = bH pg t := by
 have b : aN (pg.set n p) t = aN pg t := by
  unfold aN
  cases c : jo t with
  | false => rfl
  | true =>
   obtain ⟨i, rfl, d⟩ := kz c
   rw [Qaf, LA (by omega)]
 refine ⟨b, ?_⟩
 unfold bH
 rw [b]
 by_cases a : aN pg t = true
 rw [Qad a, Qad a]
 simp only [aN, Qan] at a
 obtain ⟨i, rfl, d⟩ := kz a.1
 rw [Qaf, LA (by omega)]
 grind
theorem a3g {fr pg} {n : Nat} {t p} (h : t ≠ (n : Int)) : yt fr pg fr (pg.set n p) t :=
  EW rfl (gr h).1 (gr h).2 fun _ _ _ => rfl
theorem LOk.set {fr pg} {d n : Nat} {p x} (h : LOk fr pg d x) (a : x.e.1 ≠ n) (b : ∀ t, t = x.rt ∨ t = x.lf → aN pg t = true → t ≠ n) : LOk fr (pg.set n p) d x :=
  h.move ((gr a).1.trans h.at_.1) (gr a).2 fun t c f => ⟨f, fun q => a3g (b t c q)⟩
theorem yE {a : List Pl} {n} {p : Pl} (e : a.length = 12) (f : n < 12) (d : p ≠ (0, 0)) : aN (a.set n p) n = true ∧ bH (a.set n p) n = p := by
 have b : ew (a.set n p) n = p := by grind [ew]
 have c : aN (a.set n p) (n : Int) = true := by
  unfold aN
  rw [Qaf, b, Qan]
  exact ⟨Qai (by omega), by simpa using d⟩
 exact ⟨c, by rw [bH, Qad c, Qaf, b]⟩
theorem PlOk.set {N n pg} {p : Pl} (h : PlOk N pg) (c : pg.length = 12) (d : n < 12) (f : p ≠ (0, 0)) (g : p.1 < N) (i : ∀ t, aN pg t = true → (bH pg t).1 ≠ p.1) : PlOk N (pg.set n p) := by
 have j := yE c d f
 refine ⟨fun t a => ?_, fun s t b a e => ?_⟩
 by_cases q : t = (n : Int)
 grind
 rw [(gr q).1] at a; rw [(gr q).2]; exact h.rng t a
 by_cases q : s = (n : Int)
 grind [gr]
 rw [(gr q).1] at b
 by_cases r : t = (n : Int)
 simp_all [gr]
 rw [(gr r).1] at a
 rw [(gr q).2, (gr r).2] at e
 exact h.inj s t b a e
theorem PlOk.drop {N n pg} (h : PlOk N pg) (f : pg.length = 12) : PlOk N (pg.set n (0, 0)) := by
 have d : aN (pg.set n (0, 0)) (n : Int) = false := by
  grind [aN, Qaf, ew]
 have b : ∀ t, aN (pg.set n (0, 0)) t = true → t ≠ (n : Int) := fun t a e => by rw [e, d] at a; cases a
 refine ⟨fun t a => ?_, fun s t c a e => ?_⟩
 have q := b t a
 rw [(gr q).1] at a; rw [(gr q).2]; exact h.rng t a
 have q := b s c
 have r := b t a
 rw [(gr q).1] at c
 rw [(gr r).1] at a
 rw [(gr q).2, (gr r).2] at e
 exact h.inj s t c a e
theorem MOk.come {fr pg} {d n : Nat} {L T p} (h : MOk fr pg d L T) (j : p.1 < (fr.length : Int)) (k : ∀ t, aN pg t = true → (bH pg t).1 ≠ p.1) : MOk fr (dL pg n p) d L T := by
 unfold dL
 split
 case isFalse => exact h
 case isTrue hz =>
  have l := hz
  have a : aN pg (n : Int) = false := by
   grind [fW]
  have f : jo (n : Int) = true ∧ ll p = true := by
   grind [fW]
  obtain ⟨i, o, m⟩ := kz f.1
  have b : p ≠ (0, 0) := fun e => by
   have := f.2
   rw [e] at this
   exact absurd this (by decide)
  have c := vP (n := (n : Int)) (p := p) h.P
  rw [dL, Qad hz] at c
  rw [Qaf] at c ⊢
  refine ⟨h.F, h.dl, c, h.pl.set h.P.len (by omega) b j k, h.ti, fun x g => (h.ln x g).set (fun e => ?_) fun t _ q e => ?_⟩
  have := (h.ln x g).at_.1
  rw [e, a] at this; cases this
  grind
theorem LOk.go {fr pg} {d n : Nat} {x} (h : LOk fr pg d x) (a : mP n x = false) : LOk fr (fe pg n) d x := by
 unfold fe
 split
 rw [Qaf]
 simp only [mP, QcS, QcA] at a
 refine h.set a.2 fun t b _ e => ?_
 have c := a.1
 rw [← Qau, tq] at c
 rcases b with rfl | rfl
 omega
 omega
 exact h
theorem LB {N n : Nat} {pg} (a : pg.length = 12) (h : PlOk N pg) : PlOk N (fe pg n) := by
 unfold fe
 split
 rw [Qaf]; exact h.drop a
 exact h
theorem a3h bm pv bt bs ps pm d its room now T L fr pg (O : Rep its now T) (Q : T.length ≤ room) (S : room ≤ 4) (n : Nat) (h : MOk fr pg d L T) : sP W0 123 [.pointer (some ⟨bm, 0, none⟩), .int .i64 n] (pt bm (cB pv bt bs) :: aU bt (its, cT room now) :: bJ bs L :: pt pv (cg ps pm d) :: R) (fun v B => v = .int .i64 0 ∧ ∃ c w K, B = pt bm (cB pv bt bs) :: aU bt (c, cT room now) :: bJ bs K :: pt pv (cg ps pm 0) :: R ∧ Rep c now w ∧ w.length ≤ room ∧ MOk fr (fe pg n) 0 K w) := by
 obtain ⟨I, u⟩ : ∃ I : List Ln → List It → Prop, (fun L T => TI L T ∧ ∀ x ∈ L, mP (n : Int) x = false → LOk fr (fe pg (n : Int)) d x) = I := ⟨_, rfl⟩
 have z : I L T := by
  rw [← u]
  exact ⟨h.ti, fun x f q => (h.ln x f).go q⟩
 have j : ∀ L T, I L T → L.length ≤ 1000 := fun L T q => by
  rw [← u] at q
  exact Qba q.1.len (by decide)
 have l : ∀ L T p, I L T → I (L.filter fun x => !p x) (nG ((L.filter p).map Ln.k) T) := fun L T p q => by
  rw [← u] at q ⊢
  exact ⟨q.1.drop p fun y U => by
   obtain ⟨V, W⟩ := KT U
   exact ⟨V, fun x f X e => W (QaX.2 ⟨x, QaD.2 ⟨f, X⟩, e.symm⟩)⟩, fun x f => q.2 x (QaD.1 f).1⟩
 refine jz 9 func123 ntmps123 ?_
 refine eh 2 (ir zF rfl (wx bm pv bt bs)) ?_
 refine aC rfl (fun M => ?_) fun M => ?_
 exact absurd M (by decide)
 refine au 5 ?_
 refine aF rfl (lW GK rfl (KZ bm pv bt bs ps pm d its (.int .i64 room) (.int .i64 now) now room T L O Q S h.dl I j l z)) ?_
 rintro _ N ⟨rfl, m, o, g, a, A, C, r, D, _⟩
 subst a
 have E := j g o r
 have b := l g o (mP (n : Int)) r
 obtain ⟨i, s⟩ : ∃ i, (g.filter (mP (n : Int))).map Ln.k = i := ⟨_, rfl⟩
 have G : (g.filter (mP (n : Int))).length = i.length := by grind
 have H : i.length ≤ 1000 := by grind
 rw [s] at b
 refine au 10 ?_
 refine aF rfl (ir call194 rfl (a1v bs g E (n : Int))) ?_
 rintro _ N ⟨Y, Z, rfl, a⟩
 subst a
 rw [KY, s, G]
 refine aF rfl (vq call149 rfl (KU bm pv bt bs m (.int .i64 room) (.int .i64 now) now o A (by omega) Y Z i H)) ?_
 rintro _ N ⟨rfl, t, a, J⟩
 subst a
 refine au 8 ?_
 refine ac ?_
 rw [← u] at b
 have hm : MOk fr (fe pg (n : Int)) 0 (g.filter fun x => !mP (n : Int) x) (nG i o) := ⟨h.F, by decide, KP h.P, LB h.P.len h.pl, b.1, fun x f => by
  obtain ⟨hx1, hx2⟩ := QaD.1 f
  exact (b.2 x f (by grind)).clean (D x hx1)⟩
 exact ⟨_, ⟨rfl, t, nG i o, g.filter fun x => !mP (n : Int) x, rfl, J, Qba EX C, hm⟩, IO⟩
theorem MOk.flush {fr pg L T} (h : MOk fr pg 0 L T) : MOk fr pg 0 [] [] := ⟨h.F, h.dl, h.P, h.pl, TI.nil, fun x a => by simp at a⟩
theorem a3i bm pv bt bs ps pm d its room now T L fr pg (l : Rep its now T) (m : T.length ≤ room) (n : room ≤ 4) (h : MOk fr pg d L T) : sP W0 350 [.pointer (some ⟨bm, 0, none⟩)] (pt bm (cB pv bt bs) :: aU bt (its, cT room now) :: bJ bs L :: pt pv (cg ps pm d) :: R) (fun v B => ∃ k a, v = .int .i64 k ∧ B = pt bm (cB pv bt bs) :: aU bt (a, cT room now) :: bJ bs [] :: pt pv (cg ps pm 0) :: R ∧ Rep a now [] ∧ MOk fr pg 0 [] []) := by
 refine jz 9 func350 ntmps350 ?_
 refine eh 2 (ir zF rfl (wx bm pv bt bs)) ?_
 refine aC rfl (fun i => ?_) fun i => ?_
 exact absurd i (by decide)
 refine au 5 ?_
 refine aF rfl (lW GK rfl (EY bm pv bt bs ps pm d its (.int .i64 room) (.int .i64 now) now room T L fr pg l m n h)) ?_
 rintro _ o ⟨rfl, c, p, q, b, e, r, j, _⟩
 subst b
 have s := e.length
 have t := j.ti.len
 refine au 8 ?_
 refine aF rfl (ir call400 rfl (a03 bt c (.int .i64 room) (.int .i64 now) now p e (by omega))) ?_
 rintro _ o ⟨rfl, f, b, g⟩
 subst b
 refine au 8 ?_
 refine eh 4 (ir call401 rfl (a1w bs q (by omega))) ?_
 refine ac ?_
 exact ⟨_, ⟨_, f, rfl, rfl, g, j.flush⟩, IO⟩
structure Mu where
  pv : Nat
  ps : Nat
  pm : Nat
  bud : Nat
  fr : List aD
  pg : List Pl
def gC (bm : Nat) (x : Mu) : HP := chk (fun C => ∃ bt bs its T L now d, Rep its now T ∧ T.length ≤ 4 ∧ now ≤ x.bud ∧ MOk x.fr x.pg d L T ∧ C = [pt bm (cB x.pv bt bs), aU bt (its, cT 4 now), bJ bs L, pt x.pv (cg x.ps x.pm d), pt x.pm (bI x.pg)])
section
variable {P : Program} {W0 : World} {N : FSz} {K : Act → World → Prop} {e : bi} {R : List HP} {bm pv ps pm bud : Nat} {fr : List aD} {pg : List Pl} {f : FuncId} {args : List Value} {Post : Value → List HP → Prop}
theorem pS (h : ∀ c e b T L a d, Rep b a T → T.length ≤ 4 → a ≤ bud → MOk fr pg d L T → bF P W0 f args (pt bm (cB pv c e) :: aU c (b, cT 4 a) :: bJ e L :: pt pv (cg ps pm d) :: pt pm (bI pg) :: R) Post) : bF P W0 f args (gC bm ⟨pv, ps, pm, bud, fr, pg⟩ :: R) Post :=
  qk fun C g => by obtain ⟨c, e, b, T, L, a, d, i, j, k, l, rfl⟩ := g; exact h c e b T L a d i j k l
theorem nH {bt bs now d its T L} (a : Rep its now T) (b : T.length ≤ 4) (c : now ≤ bud) (e : MOk fr pg d L T) : Ent (pt bm (cB pv bt bs) :: aU bt (its, cT 4 now) :: bJ bs L :: pt pv (cg ps pm d) :: pt pm (bI pg) :: R) (gC bm ⟨pv, ps, pm, bud, fr, pg⟩ :: R) :=
  fK (R := R) (C := [_, _, _, _, _]) ⟨bt, bs, its, T, L, now, d, a, b, c, e, rfl⟩
end
theorem LC {n pg pa w kind} (h : dD n pg pa w kind = 0) : aN pg (pa / 64 : Nat) = true := by
 grind [dD, eX]
section
variable (W0 : World) (R : List HP) (bm pv ps pm bud : Nat) (fr : List aD) (pg : List Pl)
theorem LD (j : ∀ A, bE (aQ W0 A) 1 0 jc) (t : bud < 800000) on root user (a : Nat) (i : a < 4294967296) w kind :
    bF Tryz.prog W0 207 [pV bm, .agg (qB on root user).toArray, .int .u32 a, .int .i64 w, .int .i64 kind] (gC bm ⟨pv, ps, pm, bud, fr, pg⟩ :: bD ps fr :: R)
      (fun v B => v = .tuple #[wV (pj fr pg on root user a w kind), .int .i64 (lL fr pg on root user a w kind)] ∧ B = gC bm ⟨pv, ps, pm, bud + 3, fr, pg⟩ :: bD ps fr :: R) := by
 refine pS fun b c e T L f d k l u m => ?_
 refine sW (B := pt bm (cB pv b c) :: aU b (e, cT 4 f) :: bJ c L :: fF pv ps pm d fr pg R) inferInstance ?_
 refine gQ (a3d W0 R j bm pv b c ps pm d on root user a i w kind e 4 f T L fr pg k l (by decide) (by omega) m) fun v B n => ?_
 obtain ⟨rfl, g, x, o, h, p, q, r, s, y, rfl⟩ := n
 refine ⟨_, ⟨rfl, rfl⟩, ?_⟩
 exact Ent.trans (B := pt bm (cB pv b c) :: aU b (g, cT 4 h) :: bJ c o :: pt pv (cg ps pm p) :: pt pm (bI pg) :: bD ps fr :: R) inferInstance (nH q r (by omega) s)
theorem a3j (j : ∀ A, bE (aQ W0 A) 1 0 jc) (u : bud < 800000) on root user (a : Nat) (i : a < 4294967296) w (x : Nat) (k : x < 4294967296) :
    bF Tryz.prog W0 349 [pV bm, .agg (qB on root user).toArray, .int .u32 a, .int .i64 w, .int .u32 x] (gC bm ⟨pv, ps, pm, bud, fr, pg⟩ :: bD ps fr :: R)
      (fun v B => v = .int .i64 (lL fr pg on root user a w 2) ∧ B = gC bm ⟨pv, ps, pm, bud + 3, lM fr pg on root user a w x, pg⟩ :: bD ps (lM fr pg on root user a w x) :: R) := by
 refine pS fun b c e T L f d l m y n => ?_
 refine sW (B := pt bm (cB pv b c) :: aU b (e, cT 4 f) :: bJ c L :: fF pv ps pm d fr pg R) inferInstance ?_
 refine gQ (a3f W0 R j bm pv b c ps pm d on root user a i w x k e 4 f T L fr pg l m (by decide) (by omega) n) fun v B o => ?_
 obtain ⟨rfl, g, z, p, h, q, r, s, t, C, rfl⟩ := o
 refine ⟨_, ⟨rfl, rfl⟩, ?_⟩
 exact Ent.trans (B := pt bm (cB pv b c) :: aU b (g, cT 4 h) :: bJ c p :: pt pv (cg ps pm q) :: pt pm (bI pg) :: bD ps (lM fr pg on root user a w x) :: R) inferInstance (nH r s (by omega) t)
theorem a3k : bF Tryz.prog W0 350 [pV bm] (gC bm ⟨pv, ps, pm, bud, fr, pg⟩ :: R) (fun v B => ∃ k, v = .int .i64 k ∧ B = gC bm ⟨pv, ps, pm, bud, fr, pg⟩ :: R) := by
 refine pS fun e f a T L b d g h i j => ?_
 refine gQ (a3i bm pv e f ps pm d a 4 b T L fr pg g h (by decide) j) fun v B l => ?_
 obtain ⟨k, c, rfl, rfl, m, n⟩ := l
 exact ⟨_, ⟨k, rfl, rfl⟩, nH m (by decide) i n⟩
theorem a3l (a : Nat) (i : a < 4294967296) w (x : Nat) (l : x < 4294967296) :
    bF Tryz.prog W0 55 [pV pv, .int .u32 a, .int .i64 w, .int .u32 x] (gC bm ⟨pv, ps, pm, bud, fr, pg⟩ :: bD ps fr :: R)
      (fun v B => v = .int .i64 (dD fr.length pg a w 2) ∧ B = gC bm ⟨pv, ps, pm, bud, kN fr pg a w x, pg⟩ :: bD ps (kN fr pg a w x) :: R) := by
 refine pS fun g h c T L f d m o p b => ?_
 refine sW (B := pt pv (cg ps pm d) :: bD ps fr :: pt pm (bI pg) :: pt bm (cB pv g h) :: aU g (c, cT 4 f) :: bJ h L :: R) inferInstance ?_
 refine gQ (I9 pv ps pm d fr pg b.P b.F b.dl a i w x l) fun v B r => ?_
 obtain ⟨rfl, rfl⟩ := r
 refine ⟨_, ⟨rfl, rfl⟩, ?_⟩
 refine Ent.trans (B := pt bm (cB pv g h) :: aU g (c, cT 4 f) :: bJ h L :: pt pv (cg ps pm (pL fr pg a w d)) :: pt pm (bI pg) :: bD ps (kN fr pg a w x) :: R) inferInstance (nH m o p ?_)
 unfold kN pL
 split
 rename_i k
 obtain ⟨A, C, D⟩ := xx k
 have j : d ||| 2 ^ (a / 64) < 4096 := Qcc (n := 12) b.dl (Dp (by omega))
 exact b.save (LC k) ((a % 64 : Nat) : Int) w x j (fun t q => (Br q).1) (fun y s t u z e => by
  have E := (b.ln y s).own
  have G := (Br z).2
  rcases u with rfl | rfl <;> omega)
 exact b
end
structure VIt where
  n : Int
  p : Int
  s : Int
  hs : 0 ≤ s ∧ s < 10000000000000000000
instance : Hk VIt where
  default := ⟨0, 0, 0, by decide⟩
  ky := fun x => x.s - x.p * 100000000000000000000
@[reducible] def gO (x : VIt) : List Value := [.int .i64 x.n, .int .i64 x.p, .int .i64 x.s]
theorem lv x : (gO x).length = 3 := rfl
theorem tB (a : List VIt) sp i (b : i < a.length) : ((a.flatMap gO ++ sp).drop (i * 3)).take 3 = gO (a.getD i default) := by
 simp_all [rE, lv, List.getD]
theorem Bs (a : List VIt) sp i x (b : i < a.length) : d7 (a.flatMap gO ++ sp) (i * 3) (gO x) = (a.set i x).flatMap gO ++ sp := vy lv a i x sp b
theorem Bt (a : List VIt) sp i (b : i < a.length) : i * 3 + 3 ≤ (a.flatMap gO ++ sp).length := by
 rw [Qae, cF lv]; omega
theorem LE {a : List VIt} {i} (h : i < a.length) : a ≠ [] := fun e => by rw [e] at h; simp at h
abbrev eB : Nat → List VIt × List Value → HP := nx 177 331 3 gO 32
abbrev s5 (b : Nat) : Value := .pointer (some ⟨b, 32, none⟩)
theorem LF b its cs : sQ W0 280 [s5 b] (eB b (its, cs) :: R) (iQ its.length) (eB b (its, cs) :: R) := by
 refine t7 fun a c d => ?_
 refine am func280 ntmps280 ?_
 refine aa (aE (aI (eQ d))) ?_
 refine ac ?_
 exact ⟨_, ⟨rfl, rfl⟩, ny rfl rfl d rfl⟩
theorem a3m b its cs (i k : Nat) (o : i < its.length) (t : k < its.length) : sQ W0 501 [s5 b, iQ i, iQ k] (eB b (its, cs) :: R) (.bool (decide (Hp.us its i < Hp.us its k))) (eB b (its, cs) :: R) := by
 refine qF lv (LE o) (by decide) fun g c u f h j l => ?_
 obtain ⟨x, v⟩ : ∃ x, its.getD i default = x := ⟨_, rfl⟩
 obtain ⟨y, w⟩ : ∃ y, its.getD k default = y := ⟨_, rfl⟩
 have d := tB its u i o
 have e := tB its u k t
 rw [v] at d
 rw [w] at e
 have m : Hp.us its i = x.s - x.p * 100000000000000000000 := by rw [Hp.us, v]; rfl
 have n : Hp.us its k = y.s - y.p * 100000000000000000000 := by rw [Hp.us, w]; rfl
 have A := x.hs
 have B := y.hs
 refine lG func501 ntmps501 rfl rfl ?_
 refine aO (aY (ae rfl (bC rfl) (aL (aH (aO ?_)))))
 refine fj [(b, 0, _), (g, i * 3, gO x), (g, k * 3, gO y)] 18 mixed rfl (bL (bj (cQ d rfl) (bj (cQ e rfl) aW))) (fun a => ?_)
 refine aj 0 3 a ?_
 refine az 3 a (aE (dq (k := 0) rfl (eQ f))) ?_
 refine aj 4 1 a ?_
 refine az 5 a (bM o) ?_
 refine dr 6 rfl rfl rfl a (iS N8 zh rfl (jR (k := 1) rfl) rfl) ?_
 refine dr 7 rfl rfl rfl a (aM rfl) ?_
 refine dr 8 rfl rfl rfl a (kL rfl) ?_
 refine dr 9 rfl rfl rfl a (d5 rfl a7y rfl sizeOf173 rfl (by first | exact Qac _ | rfl)) ?_
 refine az 10 a (aE (dq (k := 0) rfl (eQ f))) ?_
 refine aj 11 1 a ?_
 refine az 12 a (bM t) ?_
 refine dr 13 rfl rfl rfl a (iS N8 zh rfl (jR (k := 2) rfl) rfl) ?_
 refine eD (is := [14, 15]) (by kernel_rfl) rfl ⟨?_, ?_, trivial⟩
 refine cX (di wS) ?_; clear a
 rintro _ _ ⟨z, rfl, rfl⟩
 refine ⟨(bL (bj (cQ d rfl) (bj (cQ e rfl) aW))), fun a => ?_⟩
 refine bQ 15 (di wS) ?_; clear a
 rintro _ _ ⟨q, rfl, rfl⟩
 refine ⟨(bL (bj (cQ d rfl) (bj (cQ e rfl) aW))), fun a => ?_⟩
 refine iC 16 rfl rfl aA (bL (bj (cQ d rfl) (bj (cQ e rfl) aW))) fun a => ?_
 refine iC 17 rfl rfl aA (bL (bj (cQ d rfl) (bj (cQ e rfl) aW))) fun a => ?_
 refine aJ ?_
 refine ai (fun r => ?_) fun r => ?_
 refine ac ?_
 rw [m, n]
 refine ⟨_, ⟨Qah Value.bool ?_, rfl⟩, kG lv rfl rfl f rfl h j l⟩
 rw [Qag, Qaj, Qaj]
 have : x.p ≠ y.p := by omega
 omega
 refine ac ?_
 rw [m, n]
 refine ⟨_, ⟨Qah Value.bool ?_, rfl⟩, kG lv rfl rfl f rfl h j l⟩
 rw [Qag, Qaj, Qaj]
 have : x.p = y.p := by omega
 omega
 skip
 refine cX (di wS) ?_; clear a
 rintro _ _ ⟨q, rfl, rfl⟩
 refine ⟨(bL (bj (cQ d rfl) (bj (cQ e rfl) aW))), fun a => ?_⟩
 refine bQ 14 (di wS) ?_; clear a
 rintro _ _ ⟨z, rfl, rfl⟩
 refine ⟨(bL (bj (cQ d rfl) (bj (cQ e rfl) aW))), fun a => ?_⟩
 refine iC 16 rfl rfl aA (bL (bj (cQ d rfl) (bj (cQ e rfl) aW))) fun a => ?_
 refine iC 17 rfl rfl aA (bL (bj (cQ d rfl) (bj (cQ e rfl) aW))) fun a => ?_
 refine aJ ?_
 refine ai (fun r => ?_) fun r => ?_
 refine ac ?_
 rw [m, n]
 refine ⟨_, ⟨Qah Value.bool ?_, rfl⟩, kG lv rfl rfl f rfl h j l⟩
 rw [Qag, Qaj, Qaj]
 have : x.p ≠ y.p := by omega
 omega
 refine ac ?_
 rw [m, n]
 refine ⟨_, ⟨Qah Value.bool ?_, rfl⟩, kG lv rfl rfl f rfl h j l⟩
 rw [Qag, Qaj, Qaj]
 have : x.p = y.p := by omega
 omega
theorem a3n b its cs (i k : Nat) (e : i < its.length) (h : k < its.length) : sQ W0 504 [s5 b, iQ i, iQ k] (eB b (its, cs) :: R) (.tuple #[]) (eB b (Hp.swapL its i k, cs) :: R) := by
 refine qF lv (LE e) (by decide) fun g c d f m l j => ?_
 refine am func504 ntmps504 ?_
 refine bz [b] 28 fun a => ?_
 refine aj 0 3 a ?_
 refine az 3 a (aE (dq (k := 0) rfl (eQ f))) ?_
 refine aj 4 4 a ?_
 refine az 8 a (aE (dq (k := 0) rfl (eQ f))) ?_
 refine aj 9 4 a ?_
 refine az 13 a (aE (dq (k := 0) rfl (eQ f))) ?_
 refine aj 14 1 a ?_
 refine az 15 a (bM h) ?_
 refine aj 17 3 a ?_
 refine az 20 a (aE (dq (k := 0) rfl (eQ f))) ?_
 refine aj 21 1 a ?_
 refine az 22 a (bM e) ?_
 refine eD (is := [16, 23]) (by kernel_rfl) rfl ⟨?_, ?_, trivial⟩
 refine cX (dP (dj (cQ (tB its d k h) rfl))) ?_; clear a
 rintro _ _ ⟨rfl, rfl⟩
 refine ⟨aT, fun a => ?_⟩
 refine bY 23 (dP (dj (cQ (tB its d i e) rfl))) fun a => ?_
 refine az 24 a (bM e) ?_
 refine cm 25 (iD (Bt its d i e) (Bs its d i (its.getD k default) e)) fun a => ?_
 refine az 26 a (bM h) ?_
 refine cm 27 (iD (Bt (its.set i (its.getD k default)) d k (by grind)) (Bs (its.set i (its.getD k default)) d k (its.getD i default) (by grind))) fun a => ?_
 refine aJ ?_
 refine bU (.inr rfl) .nil ?_
 exact ⟨_, ⟨rfl, rfl⟩, kG lv rfl rfl f (by simp [Hp.swapL]) (by omega) l (by rw [Qae, cF lv] at j ⊢; simpa [Hp.swapL] using j)⟩
 skip
 refine cX (dP (dj (cQ (tB its d i e) rfl))) ?_; clear a
 rintro _ _ ⟨rfl, rfl⟩
 refine ⟨aT, fun a => ?_⟩
 refine bY 16 (dP (dj (cQ (tB its d k h) rfl))) fun a => ?_
 refine az 24 a (bM e) ?_
 refine cm 25 (iD (Bt its d i e) (Bs its d i (its.getD k default) e)) fun a => ?_
 refine az 26 a (bM h) ?_
 refine cm 27 (iD (Bt (its.set i (its.getD k default)) d k (by grind)) (Bs (its.set i (its.getD k default)) d k (its.getD i default) (by grind))) fun a => ?_
 refine aJ ?_
 refine bU (.inr rfl) .nil ?_
 exact ⟨_, ⟨rfl, rfl⟩, kG lv rfl rfl f (by simp [Hp.swapL]) (by omega) l (by rw [Qae, cF lv] at j ⊢; simpa [Hp.swapL] using j)⟩
theorem a3o b its x cs : sQ W0 502 [s5 b] (eB b (its ++ [x], cs) :: R) (.iface 331 (.agg (gO x).toArray)) (eB b (its, cs) :: R) := by
 refine qF lv (by simp) (by decide) fun g c d a i e j => ?_
 have k : (its ++ [x]).length = its.length + 1 := by simp
 rw [k] at i ⊢
 have l : (its ++ [x]).getD its.length default = x := by grind
 have f := tB (its ++ [x]) d its.length (by omega)
 rw [l] at f
 have h : (its ++ [x]).flatMap gO ++ d = its.flatMap gO ++ (gO x ++ d) := by simp
 refine am func502 ntmps502 ?_
 refine aa (aE (aI (eQ a))) ?_
 refine aa (l8 rfl rfl (by rw [cj (by simp only [maxLen] at e; omega)]; omega : IntKind.wrap .i64 (((its.length + 1 : Nat) : Int) - 1) = ((its.length : Nat) : Int))) ?_
 refine aa (aE (aI (eQ a))) ?_
 refine aa (bM (by omega)) ?_
 refine aa (dj (cQ f rfl)) ?_
 refine bu fun m => ?_
 refine ar aA ?_
 refine aa (aE (aI (eQ a))) ?_
 refine aa (oM zk zh rfl rfl rfl (by omega)) ?_
 refine ar (dt (by rw [Qap]; exact a) set_set) ?_
 refine ac ?_
 rw [h]
 exact ⟨_, ⟨rfl, rfl⟩, kG (sp := gO x ++ d) lv rfl rfl a rfl (by omega) e (by rw [← h]; exact j)⟩
theorem a3p b its x cs (k : its.length < 1000) : sQ W0 503 [s5 b, .iface 331 (.agg (gO x).toArray)] (eB b (its, cs) :: R) (.tuple #[]) (eB b (its ++ [x], cs) :: R) := by
 refine t7 fun a c e => ?_
 have f : its.flatMap gO ++ [gO x].flatten = (its ++ [x]).flatMap gO := by simp
 refine lG func503 ntmps503 rfl rfl ?_
 refine bz [] 12 fun d => ?_
 refine aj 0 4 d ?_
 refine aj 5 1 d ?_
 refine az 6 d (sM Nv (fun _ h => by cases h) rfl) ?_
 refine eD (is := [4, 7]) (by kernel_rfl) rfl ⟨?_, ?_, trivial⟩
 refine cX (dP (aE (aI (eQ e)))) ?_; clear d
 rintro _ _ ⟨rfl, rfl⟩
 refine ⟨aT, fun d => ?_⟩
 refine kt 7 (by kernel_rfl) rfl rfl (iA zk zh wS rfl (fp rfl rfl hJ) rfl (by decide) (by decide) (by decide)) rfl ?_; clear d
 rintro _ _ ⟨g, rfl, rfl⟩
 refine ⟨aT, fun d => ?_⟩
 refine bQ 8 (eE (sz := 3) (by_ := 24) (info := Tryz.t331) zk (by kernel_rfl) rfl rfl rfl rfl (by decide) rfl rfl en rfl rfl (by simp only [maxLen]; omega) (by omega)) ?_; clear d
 rintro _ _ ⟨i, j, rfl, rfl⟩
 refine ⟨aT, fun d => ?_⟩
 refine aj 9 2 d ?_
 refine cm 11 (dt (by grind) set_set) fun d => ?_
 refine hQ ?_
 refine bU (.inr rfl) .nil ?_
 exact ⟨_, ⟨rfl, rfl⟩, ny (its := its ++ [x]) f rfl e (by simp)⟩
 skip
 refine nU rfl rfl (iA zk zh wS rfl (fp rfl rfl hJ) rfl (by decide) (by decide) (by decide)) rfl ?_; clear d
 rintro _ _ ⟨g, rfl, rfl⟩
 refine ⟨aT, fun d => ?_⟩
 refine bY 4 (dP (aE (aI (eQ e)))) fun d => ?_
 refine bQ 8 (eE (sz := 3) (by_ := 24) (info := Tryz.t331) zk (by kernel_rfl) rfl rfl rfl rfl (by decide) rfl rfl en rfl rfl (by simp only [maxLen]; omega) (by omega)) ?_; clear d
 rintro _ _ ⟨i, j, rfl, rfl⟩
 refine ⟨aT, fun d => ?_⟩
 refine aj 9 2 d ?_
 refine cm 11 (dt (by grind) set_set) fun d => ?_
 refine aJ ?_
 refine bU (.inr rfl) .nil ?_
 exact ⟨_, ⟨rfl, rfl⟩, ny (its := its ++ [x]) f rfl e (by simp)⟩
section
variable (w : World) (a : Addr)
theorem a3q : (method (Tryz.prog.types.size + Made.depth) 329 (.pointer (some a)) "Len").run Tryz.prog w = .ok (280, .pointer (some a)) w := by kernel_rfl
theorem a3r : (method (Tryz.prog.types.size + Made.depth) 329 (.pointer (some a)) "Less").run Tryz.prog w = .ok (501, .pointer (some a)) w := by kernel_rfl
theorem a3s : (method (Tryz.prog.types.size + Made.depth) 329 (.pointer (some a)) "Swap").run Tryz.prog w = .ok (504, .pointer (some a)) w := by kernel_rfl
theorem a3t : (method (Tryz.prog.types.size + Made.depth) 329 (.pointer (some a)) "Push").run Tryz.prog w = .ok (503, .pointer (some a)) w := by kernel_rfl
theorem a3u : (method (Tryz.prog.types.size + Made.depth) 329 (.pointer (some a)) "Pop").run Tryz.prog w = .ok (502, .pointer (some a)) w := by kernel_rfl
end
def Fc (W0 : World) (b : Nat) (cs : List Value) : HpO W0 VIt where
  T := 329
  p := s5 b
  el := fun x => .iface 331 (.agg (gO x).toArray)
  H := fun l => eB b (l, cs)
  fL := 280
  fE := 501
  fS := 504
  fU := 503
  fO := 502
  mL := fun u => a3q u _
  mE := fun u => a3r u _
  mS := fun u => a3s u _
  mU := fun u => a3t u _
  mO := fun u => a3u u _
  cL := call280
  cE := call501
  cS := call504
  cU := call503
  cO := call502
  sL := fun R l => LF b l cs
  sE := fun R l i j hi hj => a3m b l cs i j hi hj
  sS := fun R l i j hi hj => a3n b l cs i j hi hj
  sU := fun R l x hl => a3p b l x cs hl
  sO := fun R l x => a3o b l x cs
theorem a3v b its x cs (c : its.length < 900) (d : Hp.Heap its its.length) : sP W0 138 [.iface 329 (s5 b), .iface 331 (.agg (gO x).toArray)] (eB b (its, cs) :: R) (fun v B => v = .tuple #[] ∧ ∃ a, B = eB b (a, cs) :: R ∧ a.Perm (its ++ [x]) ∧ Hp.Heap a a.length) :=
  Hp.heapPush_spec (Fc W0 b cs) R its x c d
theorem a3w b its cs (c : its.length < 900) (d : its ≠ []) (e : Hp.Heap its its.length) : sP W0 192 [.iface 329 (s5 b)] (eB b (its, cs) :: R) (fun v B => ∃ x a, v = .iface 331 (.agg (gO x).toArray) ∧ B = eB b (a, cs) :: R ∧ (a ++ [x]).Perm its ∧ Hp.Heap a a.length ∧ ∀ y ∈ its, Hk.ky x ≤ Hk.ky y) :=
  Hp.heapPop_spec (Fc W0 b cs) R its c d e
namespace Hp
variable {W0 : World} {α : Type} [Hk α] (o : HpO W0 α)
theorem heapRemove_spec (R : List HP) (its : List α) (i : Nat) (hN : its.length < 900) (hi : i < its.length) (hh : Heap its its.length) : sP W0 271 [iv o, iQ i] (kH 0 (o.H its) :: R) (fun v B => ∃ its', v = o.el (its.getD i default) ∧ B = kH 0 (o.H its') :: R ∧ (its' ++ [its.getD i default]).Perm its ∧ Heap its' its'.length) := by
 obtain ⟨n, hn⟩ : ∃ n, its.length = n + 1 := ⟨its.length - 1, by omega⟩
 have hs : i ≠ n → jC (swapL its i n) i n := fun hin c hc h0 => ⟨fun h1 h2 => by
  rw [kP (by omega) (by omega), kP (by omega) (by omega), Qaa h2, Qaa h1, Qaa (by omega), Qaa (by omega)]
  exact hh c (by omega) h0, fun h1 h2 => by
  rw [kP (by omega) (by omega), kP (by omega) (by omega), Qaa (by omega), Qaa (by omega), Qaa (by omega), Qaa (by omega)]
  have k1 := hh c (by omega) h0
  have k2 := hh i (by omega) h2
  rw [h1] at k1; omega⟩
 have hsl := xJ its i n
 have fin : ∀ l : List α, l.Perm its → Heap l n → l.getD n default = its.getD i default → ∃ l', l = l' ++ [its.getD i default] ∧ l'.length = n ∧ Heap l' l'.length := fun l hp hH hx => by
  have := hp.length_eq
  obtain ⟨l', x, rfl, hl', hx'⟩ := xR (l := l) (n := n) (by omega)
  rw [hx] at hx'; subst hx'
  exact ⟨l', rfl, hl', by rw [hl']; exact xS hH (by omega)⟩
 have hend : i ≠ n → (swapL its i n).getD n default = its.getD i default := fun h => by
  rw [rS (by omega) (by omega), Qaa (by omega), Qad rfl]
 refine am func271 ntmps271 ?_
 refine ah (fC rfl o.mL o.cL rfl (o.sL _ its)) ?_
 refine aa (nV n) ?_
 refine ai (fun c2 => ?_) fun c2 => ?_
 have hin : i ≠ n := by omega
 refine ah (fC rfl o.mS o.cS rfl (o.sS _ its i n (by omega) (by omega))) ?_
 refine aF rfl (ap zu (w0 o _ (swapL its i n) i n (by omega) (by omega) (by omega) (hs hin))) ?_
 rintro _ _ ⟨l, m, rfl, rfl, hD⟩
 have hll := hD.perm.length_eq
 refine aw ?_
 refine ai (fun c4 => ?_) fun c4 => ?_
 have hm : m = false := by simpa using c4
 obtain ⟨rfl, hmin⟩ := hD.no hm
 refine aF rfl (ap Cp (vZ o _ (swapL its i n) i n (by omega) (by omega) (by omega) (Av (hs hin) hmin))) ?_
 rintro _ _ ⟨rfl, l, rfl, hp, hH, ht⟩
 obtain ⟨l', rfl, hl', hH⟩ := fin l (hp.trans (lI (by omega) (by omega))) hH ((ht n (Qam _)).trans (hend hin))
 replace hp := hp.trans (lI (by omega) (by omega))
 generalize its.getD i default = x at hp ⊢
 refine aw ?_
 refine ah (fC rfl o.mO o.cO rfl (o.sO _ l' x)) ?_
 refine ac ?_
 exact ⟨_, ⟨l', rfl, rfl, by first | exact hp | exact QaN _, hH⟩, IO⟩
 have hm : m = true := by simpa using c4
 obtain ⟨l', rfl, hl', hH⟩ := fin l (hD.perm.trans (lI (by omega) (by omega))) (hD.yes hm) ((hD.tail n (Qam _)).trans (hend hin))
 have hp := hD.perm.trans (lI (l := its) (i := i) (j := n) (by omega) (by omega))
 generalize its.getD i default = x at hp ⊢
 refine ah (fC rfl o.mO o.cO rfl (o.sO _ l' x)) ?_
 refine ac ?_
 exact ⟨_, ⟨l', rfl, rfl, by first | exact hp | exact QaN _, hH⟩, IO⟩
 obtain rfl : n = i := by omega
 obtain ⟨l', hl, hl', hH⟩ := fin its (QaN _) (DZ hh (by omega)) rfl
 have hp : (l' ++ [its.getD n default]).Perm its := by rw [← hl]
 generalize hx : its.getD n default = x at hl hp ⊢
 rw [hl]
 refine ah (fC rfl o.mO o.cO rfl (o.sO _ l' x)) ?_
 refine ac ?_
 exact ⟨_, ⟨l', rfl, rfl, by first | exact hp | exact QaN _, hH⟩, IO⟩
end Hp
structure Li where
  w : Bool
  m : Bool
  p : Int
  s : Int
  hs : 0 ≤ s ∧ s < 10000000000000000000
instance : Inhabited Li := ⟨⟨false, false, 0, 0, by decide⟩⟩
@[reducible] def pT (x : Li) : List Value := [.bool x.w, .bool x.m, .int .i64 x.p, .int .i64 x.s]
theorem tC x : (pT x).length = 4 := rfl
def dO (ls : List Li) (now : Int) : List Value := ls.flatMap pT ++ [.slice none 0 0, .int .i64 now, .bool true]
theorem yF {ls now} (h : ls.length = 8) : (dO ls now).length = 35 := by
 rw [dO, Qae, cF tC, h]; rfl
theorem a3x {ls now} (h : ls.length = 8) : (dO ls now)[34]? = some (.bool true) := by
 rw [dO, Qbn (by rw [cF tC, h]; decide), cF tC, h]; rfl
theorem LG {ls now} (h : ls.length = 8) : (dO ls now)[33]? = some (iQ now) := by
 rw [dO, Qbn (by rw [cF tC, h]; decide), cF tC, h]; rfl
theorem a3y {ls now n j} (a : n < ls.length) (b : j < 4) : (dO ls now)[n * 4 + j]? = (pT (ls.getD n default))[j]? := by
 simp_all [dO, mq, tC]
theorem LH {W0 A R T E sz o b off α f} {its : List α} {cs vs} [hk : Tk (nx T E sz f o) b A (its, cs) R] (h : ∀ j v, vs[j]? = some v → off + j ≠ o ∧ cs[off + j]? = some v) : bE (aQ W0 A) b off vs :=
  fun j v a => xQ (o := o) (f := f) (T := T) (E := E) (sz := sz) (h j v a).1 (h j v a).2
theorem LI b its ls now (h : ls.length = 8) : sQ W0 84 [pV b] (eB b (its, dO ls now) :: R) (.bool false) (eB b (its, dO ls now) :: R) := by
 refine am func84 ntmps84 ?_
 refine dk rfl rfl rfl (fun a => ?_) fun a => ?_
 cases a
 refine aw ?_
 refine aa (aE (xQ (b := b) (T := 177) (E := 331) (sz := 3) (f := gO) (o := 32) (by decide) (a3x h))) ?_
 exact ac ao
def gx (n : Int) : Bool := decide (0 ≤ n ∧ n < 8)
theorem Fe b its ls now (h : ls.length = 8) n : sQ W0 112 [pV b, iQ n] (eB b (its, dO ls now) :: R) (iQ (if gx n then 0 else 1)) (eB b (its, dO ls now) :: R) := by
 refine am func112 ntmps112 ?_
 refine ah (ap call84 (LI b its ls now h)) ?_
 refine ai (fun a => ?_) fun a => ?_
 refine ac ?_
 rw [Qaa (by grind [gx])]
 exact ao
 refine ai (fun c => ?_) fun c => ?_
 refine ac ?_
 rw [Qaa (by grind [gx])]
 exact ao
 refine ac ?_
 rw [Qad (by grind [gx])]
 exact ao
theorem a3z b its cs (i : Nat) (c : its.length < 900) (d : i < its.length) (e : Hp.Heap its its.length) : sP W0 271 [.iface 329 (s5 b), iQ i] (eB b (its, cs) :: R) (fun v B => ∃ a, v = .iface 331 (.agg (gO (its.getD i default)).toArray) ∧ B = eB b (a, cs) :: R ∧ (a ++ [its.getD i default]).Perm its ∧ Hp.Heap a a.length) :=
  Hp.heapRemove_spec (Fc W0 b cs) R its i c d e
theorem LJ {its' its} {x : VIt} {n} (c : (its' ++ [x]).Perm its) (d : x.n = n) (a : (its.map (·.n)).Nodup) : its'.Perm (its.filter fun y => y.n != n) := by
 have b := c.filter (fun y => y.n != n)
 have f : ((its' ++ [x]).map (·.n)).Nodup := (c.map (·.n)).symm.nodup a
 have g : ∀ y ∈ its', (y.n != n) = true := fun y h => by
  rw [QaH, Qbp] at f
  have := f.2.2 _ (QbP h) _ (Qbg.2 rfl)
  simp only [QbN, ne_eq]
  intro e; exact this (by rw [e, ← d])
 rw [QbF, QaT.2 g] at b
 have i : [x].filter (fun y => y.n != n) = [] := by simp [d]
 rw [i, Qav] at b
 exact b
theorem a3A b its ls now (h : ls.length = 8) n (C : its.length < 900) (l : Hp.Heap its its.length) (m : (its.map (·.n)).Nodup) : sP W0 190 [pV b, iQ n] (eB b (its, dO ls now) :: R) (fun v B => v = .tuple #[] ∧ ∃ d, B = eB b (d, dO ls now) :: R ∧ d.Perm (its.filter fun y => y.n != n) ∧ Hp.Heap d d.length) := by
 by_cases q : its = []
 subst q
 refine t7 fun a c f => ?_
 refine am func190 ntmps190 ?_
 refine aa (aE (aI (eQ f))) ?_
 refine cW (fun _ : Unit => True) (fun _ => [(11, iQ 0), (12, iQ 0)]) (fun _ => pt b (ag ((dO ls now).set 32 (.slice a ([] : List VIt).length c)) 177) :: osl 331 3 (.slice a ([] : List VIt).length c) (([] : List VIt).flatMap gO) :: R) (fun _ => 0) () ?_ ?_
 trivial
 intro _ _
 refine aw ?_
 refine aC rfl (fun o => ?_) fun o => ?_
 omega
 refine aw ?_
 refine bU (.inr rfl) .nil ?_
 exact ⟨_, ⟨rfl, [], rfl, QaN _, l⟩, ny rfl rfl f rfl⟩
 refine qF lv q (by decide) fun g c r f s t u => ?_
 refine am func190 ntmps190 ?_
 refine aa (aE (aI (eQ f))) ?_
 refine cW (fun k : Nat => k ≤ its.length ∧ ∀ j, j < k → (its.getD j default).n ≠ n) (fun k => [(0, pV b), (1, iQ n), (10, .slice (some ⟨g, 0, none⟩) its.length c), (11, iQ (its.length : Nat)), (12, iQ k)]) (fun k => pt b (ag ((dO ls now).set 32 (.slice (some ⟨g, 0, none⟩) its.length c)) 177) :: pt g (ag (its.flatMap gO ++ r) 331) :: R) (fun k => its.length - k) 0 ?_ ?_
 grind
 intro k ⟨I, D⟩
 refine aw ?_
 refine ai (fun o => ?_) fun o => ?_
 have e : k < its.length := by omega
 obtain ⟨x, w⟩ : ∃ x, its.getD k default = x := ⟨_, rfl⟩
 have z := tB its r k e
 rw [w] at z
 refine aa (bM e) ?_
 refine aa (dj (cQ z rfl)) ?_
 refine bu fun E => ?_
 refine ar aA ?_
 refine ai (fun F => ?_) fun F => ?_
 refine eK (B := eB b (its, dO ls now) :: pt E (ag (gO x) 331) :: R) (kG lv rfl rfl f rfl s t u) ?_
 refine aw ?_
 refine aF rfl (ap call271 (a3z b its (dO ls now) k C e l)) ?_
 rintro _ J ⟨d, rfl, p, A, G⟩
 obtain rfl := p.symm
 refine aw ?_
 refine bU (.inl rfl) .nil ?_
 rw [w] at A
 exact ⟨_, ⟨rfl, d, rfl, LJ A (by omega) m, G⟩, IO⟩
 refine aa bW ?_
 refine bR (k + 1) ?_
 grind
 refine bU (.inr rfl) .nil ?_
 obtain rfl : k = its.length := by omega
 refine ⟨_, ⟨rfl, its, rfl, ?_, l⟩, kG lv rfl rfl f rfl s t u⟩
 rw [QaT.2 fun y H => ?_]
 obtain ⟨j, i, rfl⟩ := Qbb.1 H
 have := D j i
 rw [Qas, QaV i] at this
 simpa using this
theorem Ff {W0 A R b its ls now n} [a : Tk eB b A (its, dO ls now) R] (c : ls.length = 8) (g : n < 8) : bE (aQ W0 A) b (n * 4) (pT (ls.getD n default)) :=
  LH (T := 177) (E := 331) (sz := 3) (o := 32) (f := gO) (its := its) (cs := dO ls now) (R := R) (hk := a) fun j v d => by
 have e : j < 4 := by
  grind
 exact ⟨by omega, (a3y (by omega) e).trans d⟩
def s6 (n : Int) (x : Li) : List VIt := if x.w && !x.m then [⟨n, x.p, x.s, x.hs⟩] else []
theorem a3B b its ls now (h : ls.length = 8) (n : Nat) (q : n < 8) (C : its.length < 800) (r : Hp.Heap its its.length) (k : (its.map (·.n)).Nodup) : sP W0 113 [pV b, iQ n] (eB b (its, dO ls now) :: R) (fun v B => v = .tuple #[] ∧ ∃ c, B = eB b (c, dO ls now) :: R ∧ c.Perm ((its.filter fun y => y.n != (n : Int)) ++ s6 n (ls.getD n default)) ∧ Hp.Heap c c.length) := by
 obtain ⟨x, t⟩ : ∃ x, ls.getD n default = x := ⟨_, rfl⟩
 rw [t]
 refine am func113 ntmps113 ?_
 refine aF rfl (ap call190 (a3A b its ls now h (n : Int) (by omega) r k)) ?_
 rintro _ u ⟨rfl, a, e, d, f⟩
 obtain rfl := e.symm
 have w : a.length ≤ its.length := by rw [d.length_eq]; exact QaL _ _
 have g : bE (aQ W0 (eB b (a, dO ls now) :: R)) b (n * 4) (pT x) := by grind [Ff]
 refine aw ?_
 refine aa (eG q) ?_
 refine aa (dj g) ?_
 refine bu fun z => ?_
 refine ar aA ?_
 refine bN (fun i => ?_) fun i => ?_
 refine ai (fun A => ?_) fun A => ?_
 refine bz [z] 12 fun l => ?_
 refine aj 0 11 l ?_
 refine bQ 11 (ap Gs (a3v b a ⟨n, x.p, x.s, x.hs⟩ (dO ls now) (by omega) f)) ?_; clear l
 rintro _ u ⟨rfl, j, e, m, o⟩
 obtain rfl := e.symm
 refine ⟨aT, fun l => ?_⟩
 refine aJ ?_
 refine bU (.inr rfl) .nil ?_
 refine ⟨_, ⟨rfl, j, rfl, ?_, o⟩, IO⟩
 rw [s6, Qad (by simp_all)]
 exact m.trans (d.append_right _)
 refine bU (.inr rfl) .nil ?_
 refine ⟨_, ⟨rfl, a, rfl, ?_, f⟩, IO⟩
 rw [s6, Qaa (by simp_all), Qav]
 exact d
 refine bU (.inr rfl) .nil ?_
 refine ⟨_, ⟨rfl, a, rfl, ?_, f⟩, IO⟩
 rw [s6, Qaa (by simp_all), Qav]
 exact d
theorem a3C {ls now x v} (h : ls.length = 8) : ((dO ls now).set 32 v).set 33 (iQ x) = (dO ls x).set 32 v := by
 have e : (ls.flatMap pT).length = 32 := by rw [cF tC, h]
 have g : ∀ y : Int, (dO ls y).set 32 v = ls.flatMap pT ++ [v, iQ y, .bool true] := fun y => by
  rw [dO, QbB _ _ (by omega), e]; rfl
 rw [g, g, QbB _ _ (by omega), e]; rfl
theorem Fg {ls now v u n j y} (h : ls.length = 8) (c : n < 8) (a : j < 4) (b : pT y = (pT (ls.getD n default)).set j u) : ((dO ls now).set 32 v).set (n * 4 + j) u = (dO (ls.set n y) now).set 32 v := by
 rw [List.set_comm _ _ (by omega)]
 rw [dO, qj tC ls n j u y _ (by omega) a (by rw [b]; simp [List.getD, show n < ls.length by omega])]
 rfl
theorem Fh {W0 A R b ls now v} [c : Tk pt b A (ag ((dO ls now).set 32 v) 177) R] (h : ls.length = 8) : bE (aQ W0 A) b 33 [iQ now] := fun j u a => by
 match j, a with
 | 0, a =>
  rw [← Qbl a]
  exact aI (by rw [QaW (by decide)]; exact LG h)
 | j + 1, a => cases a
theorem a3D b its ls now (h : ls.length = 8) (n : Nat) (i : n < 8) (C : its.length < 800) (D : Hp.Heap its its.length) (j : (its.map (·.n)).Nodup) (t : (ls.getD n default).w = false) hb (F : 0 ≤ now ∧ now < 4611686018427387904) : sP W0 42 [pV b, iQ n] (eB b (its, dO ls now) :: R) (fun v B => v = iQ 0 ∧ ∃ d, B = eB b (d, dO (ls.set n ⟨true, (ls.getD n default).m, (ls.getD n default).p, now + 1, hb⟩) (now + 1)) :: R ∧ d.Perm ((its.filter fun y => y.n != (n : Int)) ++ s6 n ⟨true, (ls.getD n default).m, (ls.getD n default).p, now + 1, hb⟩) ∧ Hp.Heap d d.length) := by
 obtain ⟨x, u⟩ : ∃ x, ls.getD n default = x := ⟨_, rfl⟩
 have l : n < ls.length := by omega
 have q : gx (n : Int) = true := by grind [gx]
 rw [u] at t ⊢
 refine am Oc ntmps42 ?_
 refine kv (ap Od (Fe b its ls now h (n : Int))) ?_
 rw [Qad q]
 have g : bE (aQ W0 (eB b (its, dO ls now) :: R)) b (n * 4) (pT x) := by grind [Ff]
 refine au 9 ?_
 refine jT ?_
 refine jS 1 (eG i) ?_
 refine aa (aE (g 0 _ rfl)) ?_
 refine ai (fun z => ?_) fun z => ?_
 refine xP (b := b) (T := 177) (E := 331) (sz := 3) (f := gO) (o := 32) fun a c H => ?_
 refine aw ?_
 refine aa (aE (aI (by rw [QaW (by decide)]; exact LG h))) ?_
 refine aa bW ?_
 refine ar (dt (by grind [Qap, yF]) (a3C h)) ?_
 refine fj [(b, 33, [iQ (now + 1)])] 18 mixed rfl (bj (Fh (by simp [h])) aW) (fun e => ?_)
 refine aj 0 7 e ?_
 refine az 7 e (aE (ko (k := 0) rfl)) ?_
 refine aj 8 2 e ?_
 refine az 10 e (eG i) ?_
 refine aj 11 1 e ?_
 refine aj 13 2 e ?_
 refine iC 12 rfl rfl (dt (by grind [yF]) (Fg (y := ⟨true, x.m, x.p, x.s, x.hs⟩) h i (by decide) (by rw [u]; rfl))) (bj (Fh (by simp [h])) aW) fun e => ?_
 refine az 15 e (eG i) ?_
 refine aj 16 1 e ?_
 refine iC 17 rfl rfl (dt (by grind [Qap, yF]) (Fg (y := ⟨true, x.m, x.p, now + 1, hb⟩) (by simp [h]) i (by decide) (by grind))) (bj (Fh (by simp [h])) aW) fun e => ?_
 refine aJ ?_
 rw [List.set_set]
 refine eK (B := eB b (its, dO (ls.set n ⟨true, x.m, x.p, now + 1, hb⟩) (now + 1)) :: R) (ny rfl rfl (by grind [yF]) rfl) ?_
 refine aw ?_
 refine aF rfl (ap call113 (a3B b its (ls.set n ⟨true, x.m, x.p, now + 1, hb⟩) (now + 1) (by simp [h]) n i C D j)) ?_
 rintro _ I ⟨rfl, d, r, A, G⟩
 obtain rfl := r.symm
 rw [show (ls.set n ⟨true, x.m, x.p, now + 1, hb⟩).getD n default = ⟨true, x.m, x.p, now + 1, hb⟩ by simp [List.getD, l]] at A
 refine aw ?_
 refine ac ?_
 exact ⟨_, ⟨rfl, d, rfl, A, G⟩, IO⟩
 exact absurd (by rw [t]; decide) z
theorem a3E b its ls now (h : ls.length = 8) (n : Nat) (f : n < 8) (d : (ls.getD n default).w = true) : sQ W0 42 [pV b, iQ n] (eB b (its, dO ls now) :: R) (iQ 0) (eB b (its, dO ls now) :: R) := by
 obtain ⟨x, g⟩ : ∃ x, ls.getD n default = x := ⟨_, rfl⟩
 have c : gx (n : Int) = true := by grind [gx]
 rw [g] at d
 refine am Oc ntmps42 ?_
 refine kv (ap Od (Fe b its ls now h (n : Int))) ?_
 rw [Qad c]
 have a : bE (aQ W0 (eB b (its, dO ls now) :: R)) b (n * 4) (pT x) := by grind [Ff]
 refine au 9 ?_
 refine jT ?_
 refine jS 1 (eG f) ?_
 refine aa (aE (a 0 _ rfl)) ?_
 refine ai (fun e => ?_) fun e => ?_
 exact absurd e (by rw [d]; decide)
 exact ac ao
theorem a3F b its ls now (h : ls.length = 8) n (c : gx n = false) : sQ W0 42 [pV b, iQ n] (eB b (its, dO ls now) :: R) (iQ 1) (eB b (its, dO ls now) :: R) := by
 refine am Oc ntmps42 ?_
 refine kv (ap Od (Fe b its ls now h n)) ?_
 rw [Qaa (by grind)]
 refine aw ?_
 refine ai (fun a => ?_) fun a => ?_
 exact ac ao
 exact absurd (by decide) a
end
section
def ju (ls : List Li) (n : Nat) : Bool := (ls.getD n default).w && !(ls.getD n default).m
def pU (ls : List Li) (n : Nat) : VIt := ⟨n, (ls.getD n default).p, (ls.getD n default).s, (ls.getD n default).hs⟩
def lN (ls : List Li) : List VIt := ((List.range 8).filter (ju ls)).map (pU ls)
theorem a3G ls (n : Nat) : s6 n (ls.getD n default) = if ju ls n then [pU ls n] else [] := rfl
theorem Fj {ls y} : y ∈ lN ls ↔ ∃ n, n < 8 ∧ ju ls n = true ∧ pU ls n = y := by
 simp only [lN, QaX, QaD, QbD]
 exact ⟨fun ⟨n, ⟨a, b⟩, c⟩ => ⟨n, a, b, c⟩, fun ⟨n, a, b, c⟩ => ⟨n, ⟨a, b⟩, c⟩⟩
theorem LK ls : (lN ls).length ≤ 8 := by
 rw [lN, Qay]
 exact Qba (QaL _ _) (by simp)
theorem LM {α β : Type} {f : α → β} (c : ∀ a b, f a = f b → a = b) : ∀ {l : List α}, l.Nodup → (l.map f).Nodup
 | [], _ => QcZ
 | a :: l, h => by
  rw [Qbx] at h
  rw [QaM, Qbx]
  refine ⟨fun d => ?_, LM c h.2⟩
  obtain ⟨b, g, e⟩ := QaX.1 d
  exact h.1 (c _ _ e ▸ g)
theorem a3H ls : ((lN ls).map (·.n)).Nodup := by
 rw [lN, List.map_map]
 refine LM (fun a b e => ?_) (List.nodup_range.sublist QbA)
 have : ((a : Nat) : Int) = ((b : Nat) : Int) := e
 omega
theorem a3I n (f : n < 8) : (List.range 8).Perm ((List.range 8).filter (· != n) ++ [n]) := by
 refine (List.perm_ext_iff_of_nodup List.nodup_range ?_).2 fun a => ?_
 rw [Qbp]
 refine ⟨List.nodup_range.sublist QbA, by simp, fun a d b c e => ?_⟩
 rw [Qbg] at c
 have := (QaD.1 d).2
 subst c; subst e
 simp at this
 simp only [QaS, QaD, QbD, Qbg, QbN, ne_eq]
 omega
theorem a3J ls (n : Nat) : ((lN ls).filter fun y => y.n != (n : Int)) = (((List.range 8).filter (· != n)).filter (ju ls)).map (pU ls) := by
 rw [lN, List.filter_map, List.filter_filter, List.filter_filter]
 congr 1
 apply Qcu
 intro a _
 have : ((fun y : VIt => y.n != (n : Int)) ∘ pU ls) a = (a != n) := by
  show (((a : Nat) : Int) != ((n : Nat) : Int)) = (a != n)
  rw [Qag, QbN, QbN]
  omega
 rw [this, Bool.and_comm]
theorem uO {α : Type} [Inhabited α] {l : List α} {n k x} (h : k ≠ n) : (l.set n x).getD k default = l.getD k default := by
 simp only [Qas]
 rw [QaW (fun e => h e.symm)]
theorem wD {α : Type} [Inhabited α] {l : List α} {n x} (h : n < l.length) : (l.set n x).getD n default = x := by
 simp [List.getD, h]
theorem a3K {ls ls' n} (h : ∀ k, k ≠ n → ls'.getD k default = ls.getD k default) : (((List.range 8).filter (· != n)).filter (ju ls')).map (pU ls') = (((List.range 8).filter (· != n)).filter (ju ls)).map (pU ls) := by
 have e : ((List.range 8).filter (· != n)).filter (ju ls') = ((List.range 8).filter (· != n)).filter (ju ls) := by
  apply Qcu
  intro a b
  have : a ≠ n := by simpa using (QaD.1 b).2
  unfold ju; rw [h a this]
 rw [e]
 apply List.map_congr_left
 intro a b
 have : a ≠ n := by simpa using (QaD.1 (QaD.1 b).1).2
 unfold pU; congr 1 <;> rw [h a this]
theorem LN {ls} {n : Nat} {x} (a : n < 8) (d : ls.length = 8) : (((lN ls).filter fun y => y.n != (n : Int)) ++ s6 n x).Perm (lN (ls.set n x)) := by
 have e := (((a3I n a).filter (ju (ls.set n x))).map (pU (ls.set n x))).symm
 rw [QbF, QaH, a3K (fun k b => uO b), ← a3J] at e
 have c : (([n] : List Nat).filter (ju (ls.set n x))).map (pU (ls.set n x)) = s6 n x := by
  have := a3G (ls.set n x) n
  rw [wD (by omega)] at this
  rw [this, List.filter_cons, List.filter_nil]
  split <;> rfl
 rw [c] at e
 exact e
def qY (ls : List Li) (n : Nat) : Int := (ls.getD n default).s - (ls.getD n default).p * 100000000000000000000
def tD (ls : List Li) (n : Nat) : Bool := ju ls n && (List.range 8).all fun k => !ju ls k || decide (qY ls n ≤ qY ls k)
def jJ (ls : List Li) : Option Nat := (List.range 8).find? (tD ls)
structure VOk (ls : List Li) (now : Int) : Prop where
  len : ls.length = 8
  nn : 0 ≤ now
  le : ∀ n, n < 8 → (ls.getD n default).s ≤ now
  ne : ∀ n m, n < 8 → m < 8 → n ≠ m → (ls.getD n default).w = true → (ls.getD m default).w = true → (ls.getD n default).s ≠ (ls.getD m default).s
theorem a3L {ls now} (h : VOk ls now) {n m} (c : n < 8) (d : m < 8) (a : ju ls n = true) (b : ju ls m = true) (e : qY ls n = qY ls m) : n = m := by
 rcases Nat.decEq n m with q | q
 have f := (ls.getD n default).hs
 have g := (ls.getD m default).hs
 simp only [ju, Qan] at a b
 have := h.ne n m c d q a.1 b.1
 unfold qY at e
 omega
 exact q
theorem a3M {ls now} (h : VOk ls now) (b : lN ls = []) : jJ ls = none := by
 unfold jJ
 rw [QbX]
 intro n c a
 simp only [tD, Qan] at a
 have : pU ls n ∈ lN ls := Fj.2 ⟨n, by simpa using c, a.1, rfl⟩
 rw [b] at this
 cases this
theorem LO {ls now} (h : VOk ls now) {n} (b : n < 8) (c : ju ls n = true) (d : ∀ k, k < 8 → ju ls k = true → qY ls n ≤ qY ls k) : jJ ls = some n := by
 have f : tD ls n = true := by
  simp only [tD, Qan, QbW]
  refine ⟨c, fun k g => ?_⟩
  cases q : ju ls k with
  | false => rfl
  | true => simpa using d k (by simpa using g) q
 unfold jJ
 cases q : (List.range 8).find? (tD ls) with
 | none =>
  rw [QbX] at q
  exact absurd f (q n (by simpa using b))
 | some m =>
  have a := List.find?_some q
  have e : m < 8 := by simpa using Qcp q
  simp only [tD, Qan, QbW] at a
  have i : qY ls m ≤ qY ls n := by
   have := a.2 n (by simpa using b)
   simpa [c] using this
  rw [a3L h b e c a.1 (Int.le_antisymm (d m e a.1) i)]
theorem yG {ls n} (h : jJ ls = some n) : n < 8 ∧ ju ls n = true := by
 unfold jJ at h
 have a := List.find?_some h
 simp only [tD, Qan] at a
 exact ⟨by simpa using Qcp h, a.1⟩
def me (ls : List Li) (now : Int) (n : Nat) : List Li := if h : (ls.getD n default).w = false ∧ 0 ≤ now + 1 ∧ now + 1 < 10000000000000000000 then ls.set n ⟨true, (ls.getD n default).m, (ls.getD n default).p, now + 1, h.2⟩ else ls
def k8 (ls : List Li) (now : Int) (n : Nat) : Int := if (ls.getD n default).w = false then now + 1 else now
def s7 (ls : List Li) (n : Nat) : List Li := ls.set n ⟨false, (ls.getD n default).m, (ls.getD n default).p, (ls.getD n default).s, (ls.getD n default).hs⟩
theorem VOk.set {ls now now' n x} (h : VOk ls now) (u : now ≤ now') (t : x.s ≤ now') (p : x.w = true → now < x.s ∨ (ls.getD n default).w = true ∧ x.s = (ls.getD n default).s) : VOk (ls.set n x) now' := by
 refine ⟨by rw [Qap, h.len], by have := h.nn; omega, fun k r => ?_, fun a b g i f d c => ?_⟩
 by_cases q : k = n
 subst q; rw [wD (by rw [h.len]; exact r)]; exact t
 rw [uO q]; have := h.le k r; omega
 by_cases l : a = n
 have j : b ≠ n := fun e => f (l.trans e.symm)
 subst l
 rw [wD (by rw [h.len]; exact g)] at d ⊢
 rw [uO j] at c ⊢
 rcases p d with q | ⟨m, o⟩
 have := h.le b i; omega
 rw [o]; exact h.ne a b g i f m c
 rw [uO l] at d ⊢
 by_cases j : b = n
 subst j
 rw [wD (by rw [h.len]; exact i)] at c ⊢
 rcases p c with q | ⟨m, o⟩
 have := h.le a g; omega
 rw [o]; exact h.ne a b g i f d m
 rw [uO j] at c ⊢
 exact h.ne a b g i f d c
theorem VOk.raise {ls now n} (h : VOk ls now) : VOk (me ls now n) (k8 ls now n) := by
 unfold me k8
 split
 rename_i q
 rw [Qad q.1]
 exact h.set (by omega) (QbR _) fun _ => .inl (by show now < now + 1; omega)
 split
 exact ⟨h.len, by have := h.nn; omega, fun k a => by have := h.le k a; omega, h.ne⟩
 exact h
theorem VOk.take {ls now n} (h : VOk ls now) (a : n < 8) : VOk (s7 ls n) now := h.set (QbR _) (h.le n a) fun e => by cases e
end
section
open Go.RowKit
def mQ (b : Nat) (x : List Li × Int) : HP := chk (fun C => ∃ its : List VIt, its.Perm (lN x.1) ∧ Hp.Heap its its.length ∧ VOk x.1 x.2 ∧ C = [eB b (its, dO x.1 x.2)])
section
variable {P : Program} {W0 : World} {N : FSz} {K : Act → World → Prop} {e : bi} {A R B : List HP} {b : Nat} {ls : List Li} {now : Int} {f : FuncId} {args : List Value} {Post : Value → List HP → Prop}
theorem LP (h : ∀ a, a.Perm (lN ls) → Hp.Heap a a.length → VOk ls now → bF P W0 f args (eB b (a, dO ls now) :: R) Post) : bF P W0 f args (mQ b (ls, now) :: R) Post :=
  qk fun C c => by obtain ⟨a, d, e, g, rfl⟩ := c; exact h a d e g
theorem yH {its} [h : Tk eB b A (its, dO ls now) R] (a : its.Perm (lN ls)) (c : Hp.Heap its its.length) (d : VOk ls now) [k : Ent R B] : Ent A (mQ b (ls, now) :: B) :=
  (Ent.ofPerm h.perm).trans ((Ent.cons k).trans (fK (R := B) (C := [_]) ⟨its, a, c, d, rfl⟩))
theorem a3N : Ent (pt b (ag ((dO (List.replicate 8 default) 0).set 32 ej) 177) :: R) (mQ b (List.replicate 8 default, 0) :: R) := by
 have e : Ent (pt b (ag ((dO (List.replicate 8 default) 0).set 32 ej) 177) :: R) (eB b ([], dO (List.replicate 8 default) 0) :: R) :=
   (Ent.cons (fm (E := 331) (sz := 3) (A := R) (B := R))).trans (fK (R := R) (C := [_, _]) ⟨by decide, none, 0, rfl⟩)
 refine e.trans (fK (R := R) (C := [_]) ⟨[], ?_, fun c a => absurd a (QbE c), ?_, rfl⟩)
 exact QaN _
 refine ⟨rfl, QbR _, fun n d => ?_, fun n m d f _ h => ?_⟩
 have : n = 0 ∨ n = 1 ∨ n = 2 ∨ n = 3 ∨ n = 4 ∨ n = 5 ∨ n = 6 ∨ n = 7 := by omega
 rcases this with rfl | rfl | rfl | rfl | rfl | rfl | rfl | rfl <;> decide
 have : n = 0 ∨ n = 1 ∨ n = 2 ∨ n = 3 ∨ n = 4 ∨ n = 5 ∨ n = 6 ∨ n = 7 := by omega
 rcases this with rfl | rfl | rfl | rfl | rfl | rfl | rfl | rfl <;> exact absurd h (by decide)
end
theorem a3O {n} (h : gx n = true) : ∃ k : Nat, n = k ∧ k < 8 := by
 have := Qar h
 exact ⟨n.toNat, by omega, by omega⟩
theorem LQ {a : List VIt} {ls} (h : a.Perm (lN ls)) : (a.map (·.n)).Nodup := (h.map (·.n)).symm.nodup (a3H ls)
theorem LR b ls now n (x : now < 4000000000000000000) : sQ W0 42 [pV b, iQ n] (mQ b (ls, now) :: R) (iQ (if gx n then 0 else 1)) (mQ b (if gx n then me ls now n.toNat else ls, if gx n then k8 ls now n.toNat else now) :: R) := by
 refine LP fun a f l c => ?_
 have y : a.length ≤ 8 := by rw [f.length_eq]; exact LK ls
 have z := c.nn
 by_cases d : gx n = true
 obtain ⟨k, rfl, o⟩ := a3O d
 rw [Qad d, Qad d, Qad d, Qaf]
 by_cases h : (ls.getD k default).w = true
 refine gQ (a3E b a ls now c.len k o h) fun v B g => ?_
 obtain ⟨rfl, rfl⟩ := g
 have i : me ls now k = ls := by rw [me, dif_neg (by rw [h]; simp)]
 have j : k8 ls now k = now := by rw [k8, Qaa (by rw [h]; decide)]
 rw [i, j]
 exact ⟨_, ⟨rfl, rfl⟩, yH f l c⟩
 have e : (ls.getD k default).w = false := by simpa using h
 have q : 0 ≤ now + 1 ∧ now + 1 < 10000000000000000000 := by omega
 have r := c.raise (n := k)
 refine gQ (a3D b a ls now c.len k o (by omega) l (LQ f) e q (by omega)) fun v B g => ?_
 obtain ⟨rfl, s, rfl, t, u⟩ := g
 have i : me ls now k = ls.set k ⟨true, (ls.getD k default).m, (ls.getD k default).p, now + 1, q⟩ := by rw [me, dif_pos ⟨e, q⟩]
 have j : k8 ls now k = now + 1 := by rw [k8, Qad e]
 rw [i, j] at r
 rw [i, j]
 refine ⟨_, ⟨rfl, rfl⟩, yH (t.trans ?_) u r⟩
 exact ((f.filter _).append_right _).trans (LN o c.len)
 rw [Qaa d, Qaa d, Qaa d]
 refine gQ (a3F b a ls now c.len n (by simpa using d)) fun v B g => ?_
 obtain ⟨rfl, rfl⟩ := g
 exact ⟨_, ⟨rfl, rfl⟩, yH f l c⟩
def mf (ls : List Li) : List Li := match jJ ls with | some n => s7 ls n | none => ls
theorem a3P {ls now} (h : VOk ls now) : VOk (mf ls) now := by
 unfold mf
 cases q : jJ ls with
 | none => exact h
 | some n => exact h.take (yG q).1
theorem a3Q b ls now : sQ W0 205 [pV b] (mQ b (ls, now) :: R) (.tuple #[iQ ((jJ ls).getD 0), .bool (jJ ls).isSome]) (mQ b (mf ls, now) :: R) := by
 refine LP fun d t D l => ?_
 have P : d.length ≤ 8 := by rw [t.length_eq]; exact LK ls
 have F := a3P l
 refine am func205 ntmps205 ?_
 refine eh 1 (ap call84 (LI b d ls now l.len)) ?_
 refine dk rfl rfl rfl (fun g => ?_) fun g => ?_
 first | exact absurd g (by decide) | cases g
 refine aw ?_
 refine ah (ap call280 (LF b d (dO ls now))) ?_
 refine ai (fun G => ?_) fun G => ?_
 refine ax ?_
 have Q : d = [] := Qbd.1 (by omega)
 have J : jJ ls = none := a3M l (by simp_all)
 have v : mf ls = ls := by grind [mf]
 rw [J, v]
 exact ⟨_, ⟨rfl, rfl⟩, yH t D l⟩
 refine aF rfl (ap Gv (a3w b d (dO ls now) (by omega) (fun e => by subst e; exact G rfl) D)) ?_
 rintro _ S ⟨x, i, rfl, A, H, K, u⟩
 obtain rfl := A.symm
 obtain ⟨n, w, L, rfl⟩ := Fj.1 ((H.trans t).mem_iff.1 (show x ∈ i ++ [x] by simp))
 have q : jJ ls = some n := LO l w L fun k M C => u _ (t.mem_iff.2 (Fj.2 ⟨k, M, C, rfl⟩))
 have v : mf ls = s7 ls n := by grind [mf]
 rw [v] at F
 have r : i.Perm (lN (s7 ls n)) := by
  have N := (LJ H (n := (n : Int)) rfl (LQ t)).trans (t.filter _)
  have I := LN (x := ⟨false, (ls.getD n default).m, (ls.getD n default).p, (ls.getD n default).s, (ls.getD n default).hs⟩) w l.len
  rw [show s6 (n : Int) ⟨false, (ls.getD n default).m, (ls.getD n default).p, (ls.getD n default).s, (ls.getD n default).hs⟩ = [] from rfl, Qav] at I
  exact N.trans I
 refine aa (sM Nv (fun _ h => by cases h) rfl) ?_
 refine bu fun O => ?_
 refine ar aA ?_
 refine xP (b := b) (T := 177) (E := 331) (sz := 3) (f := gO) (o := 32) fun a c U => ?_
 refine bz [O] 8 fun z => ?_
 refine aj 0 5 z ?_
 refine az 5 z (eG w) ?_
 refine aj 6 1 z ?_
 refine cm 7 (dt (by grind) (Fg (j := 0) (y := ⟨false, (ls.getD n default).m, (ls.getD n default).p, (ls.getD n default).s, (ls.getD n default).hs⟩) l.len w (by decide) rfl)) fun z => ?_
 refine aJ ?_
 refine ax ?_
 rw [q, v]
 refine ⟨_, ⟨rfl, rfl⟩, ?_⟩
 refine Ent.trans (B := eB b (i, dO (s7 ls n) now) :: R) (ny rfl rfl (by rw [yF (by simp [s7, l.len])]; decide) rfl) ?_
 exact yH r K F
structure TIt where
  d : Int
  s : Int
  i : Int
  hs : 0 ≤ s ∧ s < 10000000000000000000
instance : Hk TIt where
  default := ⟨0, 0, 0, by decide⟩
  ky := fun x => x.s + x.d * 100000000000000000000
@[reducible] def gX (x : TIt) : List Value := [.int .i64 x.d, .int .i64 x.s, .int .i64 x.i]
theorem lO x : (gX x).length = 3 := rfl
theorem a3R (a : List TIt) sp i j (b : i < a.length) (c : j < 3) : (a.flatMap gX ++ sp)[i * 3 + j]? = (gX (a.getD i default))[j]? := by
 simp_all [mq, lO, List.getD]
theorem uP (a : List TIt) sp i (b : i < a.length) : ((a.flatMap gX ++ sp).drop (i * 3)).take 3 = gX (a.getD i default) := by
 simp_all [rE, lO, List.getD]
theorem Bu (a : List TIt) sp i x (b : i < a.length) : d7 (a.flatMap gX ++ sp) (i * 3) (gX x) = (a.set i x).flatMap gX ++ sp := vy lO a i x sp b
theorem Bv (a : List TIt) sp i (b : i < a.length) : i * 3 + 3 ≤ (a.flatMap gX ++ sp).length := by
 rw [Qae, cF lO]; omega
theorem LS {a : List TIt} {i} (h : i < a.length) : a ≠ [] := fun e => by rw [e] at h; simp at h
abbrev fy : Nat → List TIt × List Value → HP := nx 183 250 3 gX 0
abbrev lw (b : Nat) : Value := .pointer (some ⟨b, 0, none⟩)
theorem LU b its cs : sQ W0 86 [lw b] (fy b (its, cs) :: R) (iQ its.length) (fy b (its, cs) :: R) := by
 refine t7 fun a c d => ?_
 refine am func86 ntmps86 ?_
 refine aa (aE (aI (eQ d))) ?_
 refine ac ?_
 exact ⟨_, ⟨rfl, rfl⟩, ny rfl rfl d rfl⟩
theorem LV (x y : TIt) : sQ W0 496 [.agg #[iQ x.d, iQ x.s], .agg #[iQ y.d, iQ y.s]] R (.bool (decide (Hk.ky x < Hk.ky y))) R := by
 have a : Hk.ky x = x.s + x.d * 100000000000000000000 := rfl
 have b : Hk.ky y = y.s + y.d * 100000000000000000000 := rfl
 have c := x.hs
 have e := y.hs
 refine am func496 ntmps496 ?_
 refine bB fun c => ?_
 refine bB fun e => ?_
 refine ai (fun f => ?_) fun f => ?_
 refine ac ?_
 rw [a, b]
 refine ⟨_, ⟨Qah Value.bool ?_, rfl⟩, IO⟩
 rw [Qag, Qaj, Qaj]
 have : x.d ≠ y.d := by omega
 omega
 refine ac ?_
 rw [a, b]
 refine ⟨_, ⟨Qah Value.bool ?_, rfl⟩, IO⟩
 rw [Qag, Qaj, Qaj]
 have : x.d = y.d := by omega
 omega
theorem a3S b its cs (i k : Nat) (f : i < its.length) (m : k < its.length) : sQ W0 492 [lw b, iQ i, iQ k] (fy b (its, cs) :: R) (.bool (decide (Hp.us its i < Hp.us its k))) (fy b (its, cs) :: R) := by
 refine qF lO (LS f) (by decide) fun g c n e o p q => ?_
 obtain ⟨x, r⟩ : ∃ x, its.getD i default = x := ⟨_, rfl⟩
 obtain ⟨y, t⟩ : ∃ y, its.getD k default = y := ⟨_, rfl⟩
 have h := Qah (fun l => l.take 2) (uP its n i f)
 have j := Qah (fun l => l.take 2) (uP its n k m)
 rw [r, List.take_take] at h
 rw [t, List.take_take] at j
 rw [show Hp.us its i = Hk.ky x by rw [Hp.us, r], show Hp.us its k = Hk.ky y by rw [Hp.us, t]]
 refine am func492 ntmps492 ?_
 refine bz [b, g] 18 fun a => ?_
 refine aj 0 3 a ?_
 refine az 3 a (aE (dq (k := 0) rfl (eQ e))) ?_
 refine aj 4 1 a ?_
 refine az 5 a (bM f) ?_
 refine aj 6 1 a ?_
 refine aj 8 3 a ?_
 refine az 11 a (aE (dq (k := 0) rfl (eQ e))) ?_
 refine aj 12 1 a ?_
 refine az 13 a (bM m) ?_
 refine aj 14 1 a ?_
 refine eD (is := [7, 15]) (by kernel_rfl) rfl ⟨?_, ?_, trivial⟩
 refine cX (dP (dj (cQ (vs := [iQ x.d, iQ x.s]) h rfl))) ?_; clear a
 rintro _ _ ⟨rfl, rfl⟩
 refine ⟨aT, fun a => ?_⟩
 refine bY 15 (dP (dj (cQ (vs := [iQ y.d, iQ y.s]) j rfl))) fun a => ?_
 refine bY 16 (aB call496 (LV x y)) fun a => ?_
 refine aj 17 1 a ?_
 refine aJ ?_
 refine ac ?_
 exact ⟨_, ⟨rfl, rfl⟩, kG lO rfl rfl e rfl o p q⟩
 skip
 refine cX (dP (dj (cQ (vs := [iQ y.d, iQ y.s]) j rfl))) ?_; clear a
 rintro _ _ ⟨rfl, rfl⟩
 refine ⟨aT, fun a => ?_⟩
 refine bY 7 (dP (dj (cQ (vs := [iQ x.d, iQ x.s]) h rfl))) fun a => ?_
 refine bY 16 (aB call496 (LV x y)) fun a => ?_
 refine aj 17 1 a ?_
 refine aJ ?_
 refine ac ?_
 exact ⟨_, ⟨rfl, rfl⟩, kG lO rfl rfl e rfl o p q⟩
theorem a3T b its cs (i k : Nat) (e : i < its.length) (h : k < its.length) : sQ W0 495 [lw b, iQ i, iQ k] (fy b (its, cs) :: R) (.tuple #[]) (fy b (Hp.swapL its i k, cs) :: R) := by
 refine qF lO (LS e) (by decide) fun g c d f m l j => ?_
 refine am func495 ntmps495 ?_
 refine bz [b] 28 fun a => ?_
 refine aj 0 3 a ?_
 refine az 3 a (aE (dq (k := 0) rfl (eQ f))) ?_
 refine aj 4 4 a ?_
 refine az 8 a (aE (dq (k := 0) rfl (eQ f))) ?_
 refine aj 9 4 a ?_
 refine az 13 a (aE (dq (k := 0) rfl (eQ f))) ?_
 refine aj 14 1 a ?_
 refine az 15 a (bM h) ?_
 refine aj 17 3 a ?_
 refine az 20 a (aE (dq (k := 0) rfl (eQ f))) ?_
 refine aj 21 1 a ?_
 refine az 22 a (bM e) ?_
 refine eD (is := [16, 23]) (by kernel_rfl) rfl ⟨?_, ?_, trivial⟩
 refine cX (dP (dj (cQ (uP its d k h) rfl))) ?_; clear a
 rintro _ _ ⟨rfl, rfl⟩
 refine ⟨aT, fun a => ?_⟩
 refine bY 23 (dP (dj (cQ (uP its d i e) rfl))) fun a => ?_
 refine az 24 a (bM e) ?_
 refine cm 25 (iD (Bv its d i e) (Bu its d i (its.getD k default) e)) fun a => ?_
 refine az 26 a (bM h) ?_
 refine cm 27 (iD (Bv (its.set i (its.getD k default)) d k (by grind)) (Bu (its.set i (its.getD k default)) d k (its.getD i default) (by grind))) fun a => ?_
 refine aJ ?_
 refine bU (.inr rfl) .nil ?_
 exact ⟨_, ⟨rfl, rfl⟩, kG lO rfl rfl f (by simp [Hp.swapL]) (by omega) l (by rw [Qae, cF lO] at j ⊢; simpa [Hp.swapL] using j)⟩
 skip
 refine cX (dP (dj (cQ (uP its d i e) rfl))) ?_; clear a
 rintro _ _ ⟨rfl, rfl⟩
 refine ⟨aT, fun a => ?_⟩
 refine bY 16 (dP (dj (cQ (uP its d k h) rfl))) fun a => ?_
 refine az 24 a (bM e) ?_
 refine cm 25 (iD (Bv its d i e) (Bu its d i (its.getD k default) e)) fun a => ?_
 refine az 26 a (bM h) ?_
 refine cm 27 (iD (Bv (its.set i (its.getD k default)) d k (by grind)) (Bu (its.set i (its.getD k default)) d k (its.getD i default) (by grind))) fun a => ?_
 refine aJ ?_
 refine bU (.inr rfl) .nil ?_
 exact ⟨_, ⟨rfl, rfl⟩, kG lO rfl rfl f (by simp [Hp.swapL]) (by omega) l (by rw [Qae, cF lO] at j ⊢; simpa [Hp.swapL] using j)⟩
theorem a3U b its x cs : sQ W0 493 [lw b] (fy b (its ++ [x], cs) :: R) (.iface 250 (.agg (gX x).toArray)) (fy b (its, cs) :: R) := by
 refine qF lO (by simp) (by decide) fun g c d a i e j => ?_
 have k : (its ++ [x]).length = its.length + 1 := by simp
 rw [k] at i ⊢
 have l : (its ++ [x]).getD its.length default = x := by grind
 have f := uP (its ++ [x]) d its.length (by omega)
 rw [l] at f
 have h : (its ++ [x]).flatMap gX ++ d = its.flatMap gX ++ (gX x ++ d) := by simp
 refine am func493 ntmps493 ?_
 refine aa (aE (aI (eQ a))) ?_
 refine aa (l8 rfl rfl (by rw [cj (by simp only [maxLen] at e; omega)]; omega : IntKind.wrap .i64 (((its.length + 1 : Nat) : Int) - 1) = ((its.length : Nat) : Int))) ?_
 refine aa (aE (aI (eQ a))) ?_
 refine aa (bM (by omega)) ?_
 refine aa (dj (cQ f rfl)) ?_
 refine bu fun m => ?_
 refine ar aA ?_
 refine aa (aE (aI (eQ a))) ?_
 refine aa (oM wQ C9 rfl rfl rfl (by omega)) ?_
 refine ar (dt (by rw [Qap]; exact a) set_set) ?_
 refine ac ?_
 rw [h]
 exact ⟨_, ⟨rfl, rfl⟩, kG (sp := gX x ++ d) lO rfl rfl a rfl (by omega) e (by rw [← h]; exact j)⟩
theorem a3V b its x cs (k : its.length < 1000) : sQ W0 494 [lw b, .iface 250 (.agg (gX x).toArray)] (fy b (its, cs) :: R) (.tuple #[]) (fy b (its ++ [x], cs) :: R) := by
 refine t7 fun a c e => ?_
 have f : its.flatMap gX ++ [gX x].flatten = (its ++ [x]).flatMap gX := by simp
 refine lG func494 ntmps494 rfl rfl ?_
 refine bz [] 12 fun d => ?_
 refine aj 0 4 d ?_
 refine aj 5 1 d ?_
 refine az 6 d (sM G6 (fun _ h => by cases h) rfl) ?_
 refine eD (is := [4, 7]) (by kernel_rfl) rfl ⟨?_, ?_, trivial⟩
 refine cX (dP (aE (aI (eQ e)))) ?_; clear d
 rintro _ _ ⟨rfl, rfl⟩
 refine ⟨aT, fun d => ?_⟩
 refine kt 7 (by kernel_rfl) rfl rfl (iA wQ C9 Ge rfl (fp rfl rfl hJ) rfl (by decide) (by decide) (by decide)) rfl ?_; clear d
 rintro _ _ ⟨g, rfl, rfl⟩
 refine ⟨aT, fun d => ?_⟩
 refine bQ 8 (eE (sz := 3) (by_ := 24) (info := Tryz.t250) wQ (by kernel_rfl) rfl rfl rfl rfl (by decide) rfl rfl en rfl rfl (by simp only [maxLen]; omega) (by omega)) ?_; clear d
 rintro _ _ ⟨i, j, rfl, rfl⟩
 refine ⟨aT, fun d => ?_⟩
 refine aj 9 2 d ?_
 refine cm 11 (dt (by grind) set_set) fun d => ?_
 refine hQ ?_
 refine bU (.inr rfl) .nil ?_
 exact ⟨_, ⟨rfl, rfl⟩, ny (its := its ++ [x]) f rfl e (by simp)⟩
 skip
 refine nU rfl rfl (iA wQ C9 Ge rfl (fp rfl rfl hJ) rfl (by decide) (by decide) (by decide)) rfl ?_; clear d
 rintro _ _ ⟨g, rfl, rfl⟩
 refine ⟨aT, fun d => ?_⟩
 refine bY 4 (dP (aE (aI (eQ e)))) fun d => ?_
 refine bQ 8 (eE (sz := 3) (by_ := 24) (info := Tryz.t250) wQ (by kernel_rfl) rfl rfl rfl rfl (by decide) rfl rfl en rfl rfl (by simp only [maxLen]; omega) (by omega)) ?_; clear d
 rintro _ _ ⟨i, j, rfl, rfl⟩
 refine ⟨aT, fun d => ?_⟩
 refine aj 9 2 d ?_
 refine cm 11 (dt (by grind) set_set) fun d => ?_
 refine aJ ?_
 refine bU (.inr rfl) .nil ?_
 exact ⟨_, ⟨rfl, rfl⟩, ny (its := its ++ [x]) f rfl e (by simp)⟩
section
variable (w : World) (a : Addr)
theorem a3W : (method (Tryz.prog.types.size + Made.depth) 246 (.pointer (some a)) "Len").run Tryz.prog w = .ok (86, .pointer (some a)) w := by kernel_rfl
theorem a3X : (method (Tryz.prog.types.size + Made.depth) 246 (.pointer (some a)) "Less").run Tryz.prog w = .ok (492, .pointer (some a)) w := by kernel_rfl
theorem a3Y : (method (Tryz.prog.types.size + Made.depth) 246 (.pointer (some a)) "Swap").run Tryz.prog w = .ok (495, .pointer (some a)) w := by kernel_rfl
theorem a3Z : (method (Tryz.prog.types.size + Made.depth) 246 (.pointer (some a)) "Push").run Tryz.prog w = .ok (494, .pointer (some a)) w := by kernel_rfl
theorem a30 : (method (Tryz.prog.types.size + Made.depth) 246 (.pointer (some a)) "Pop").run Tryz.prog w = .ok (493, .pointer (some a)) w := by kernel_rfl
end
def LW (W0 : World) (b : Nat) (cs : List Value) : HpO W0 TIt where
  T := 246
  p := lw b
  el := fun x => .iface 250 (.agg (gX x).toArray)
  H := fun l => fy b (l, cs)
  fL := 86
  fE := 492
  fS := 495
  fU := 494
  fO := 493
  mL := fun u => a3W u _
  mE := fun u => a3X u _
  mS := fun u => a3Y u _
  mU := fun u => a3Z u _
  mO := fun u => a30 u _
  cL := call86
  cE := call492
  cS := call495
  cU := call494
  cO := call493
  sL := fun R l => LU b l cs
  sE := fun R l i j hi hj => a3S b l cs i j hi hj
  sS := fun R l i j hi hj => a3T b l cs i j hi hj
  sU := fun R l x hl => a3V b l x cs hl
  sO := fun R l x => a3U b l x cs
theorem a31 b its x cs (c : its.length < 900) (d : Hp.Heap its its.length) : sP W0 138 [.iface 246 (lw b), .iface 250 (.agg (gX x).toArray)] (fy b (its, cs) :: R) (fun v B => v = .tuple #[] ∧ ∃ a, B = fy b (a, cs) :: R ∧ a.Perm (its ++ [x]) ∧ Hp.Heap a a.length) :=
  Hp.heapPush_spec (LW W0 b cs) R its x c d
theorem a32 b its cs (c : its.length < 900) (d : its ≠ []) (e : Hp.Heap its its.length) : sP W0 192 [.iface 246 (lw b)] (fy b (its, cs) :: R) (fun v B => ∃ x a, v = .iface 250 (.agg (gX x).toArray) ∧ B = fy b (a, cs) :: R ∧ (a ++ [x]).Perm its ∧ Hp.Heap a a.length ∧ ∀ y ∈ its, Hk.ky x ≤ Hk.ky y) :=
  Hp.heapPop_spec (LW W0 b cs) R its c d e
def fz (us : List Bool) (now : Int) : List Value := .slice none 0 0 :: (us.map Value.bool ++ [.int .i64 now, .bool true])
theorem yI {us now} (h : us.length = 4) : (fz us now).length = 7 := by
 simp [fz, h]
theorem a33 {us now} (h : us.length = 4) : (fz us now)[6]? = some (.bool true) := by
 obtain ⟨a, b, c, d, rfl⟩ : ∃ a b c d, us = [a, b, c, d] := by
  match us, h with
  | [a, b, c, d], _ => exact ⟨a, b, c, d, rfl⟩
 rfl
theorem LX {us now} (h : us.length = 4) : (fz us now)[5]? = some (iQ now) := by
 obtain ⟨a, b, c, d, rfl⟩ : ∃ a b c d, us = [a, b, c, d] := by
  match us, h with
  | [a, b, c, d], _ => exact ⟨a, b, c, d, rfl⟩
 rfl
theorem a34 {us now} (h : us.length = 4) j v (e : (us.map Value.bool)[j]? = some v) : (fz us now)[1 + j]? = some v := by
 obtain ⟨a, b, c, d, rfl⟩ : ∃ a b c d, us = [a, b, c, d] := by
  match us, h with
  | [a, b, c, d], _ => exact ⟨a, b, c, d, rfl⟩
 match j, e with
 | 0, e => exact e
 | 1, e => exact e
 | 2, e => exact e
 | 3, e => exact e
 | j + 4, e => cases e
theorem a35 {us now x v} (h : us.length = 4) : ((fz us now).set 0 v).set 5 (iQ x) = (fz us x).set 0 v := by
 obtain ⟨a, b, c, d, rfl⟩ : ∃ a b c d, us = [a, b, c, d] := by
  match us, h with
  | [a, b, c, d], _ => exact ⟨a, b, c, d, rfl⟩
 rfl
theorem LY {us now v u n} (h : us.length = 4) (e : n < 4) : ((fz us now).set 0 v).set (1 + n * 1) (.bool u) = (fz (us.set n u) now).set 0 v := by
 obtain ⟨a, b, c, d, rfl⟩ : ∃ a b c d, us = [a, b, c, d] := by
  match us, h with
  | [a, b, c, d], _ => exact ⟨a, b, c, d, rfl⟩
 match n, e with
 | 0, _ => rfl
 | 1, _ => rfl
 | 2, _ => rfl
 | 3, _ => rfl
theorem Bw b its us now (h : us.length = 4) : sQ W0 85 [lw b] (fy b (its, fz us now) :: R) (.bool false) (fy b (its, fz us now) :: R) := by
 refine am func85 ntmps85 ?_
 refine dk rfl rfl rfl (fun a => ?_) fun a => ?_
 cases a
 refine aw ?_
 refine aa (aE (xQ (b := b) (T := 183) (E := 250) (sz := 3) (f := gX) (o := 0) (by decide) (a33 h))) ?_
 exact ac ao
def kY : List Bool → Option Nat
 | [] => none
 | u :: us => if u then (kY us).map (· + 1) else some 0
theorem LZ {us k} (a : k < us.length) (b : ∀ j, j < k → us.getD j false = true) (e : us.getD k false = false) : kY us = some k := by
 induction us generalizing k with
 | nil => exact absurd a (QbE k)
 | cons u us c =>
  match k with
  | 0 => rw [kY, Qaa (by grind)]
  | k + 1 =>
   have d : u = true := b 0 (Nat.succ_pos k)
   rw [kY, Qad d, c (by simpa using a) (fun j f => by simpa using b (j + 1) (by omega)) (by grind)]
   rfl
theorem a36 {us} (a : ∀ j, j < us.length → us.getD j false = true) : kY us = none := by
 induction us with
 | nil => rfl
 | cons u us b =>
  have c : u = true := a 0 (by simp)
  rw [kY, Qad c, b (fun j d => by simpa using a (j + 1) (by grind))]
  rfl
theorem M0 {a k} (h : kY a = some k) : k < a.length := by
 induction a generalizing k with
 | nil => cases h
 | cons u a c =>
  rw [kY] at h
  by_cases d : u = true
  rw [Qad d] at h
  cases b : kY a with
  | none => rw [b] at h; cases h
  | some q => rw [b] at h; have := c b; cases h; simpa using this
  grind
theorem M1 b its us now (h : us.length = 4) : sQ W0 137 [lw b] (fy b (its, fz us now) :: R) (.tuple #[iQ ((kY us).getD 0), .bool (kY us).isSome]) (fy b (its, fz us now) :: R) := by
 obtain ⟨g, i, l, m, rfl⟩ : ∃ a b c d, us = [a, b, c, d] := by
  match us, h with
  | [a, b, c, d], _ => exact ⟨a, b, c, d, rfl⟩
 refine am func137 ntmps137 ?_
 refine aa (dj (LH (T := 183) (E := 250) (sz := 3) (f := gX) (o := 0) (vs := [.bool g, .bool i, .bool l, .bool m]) fun j v r => ⟨by omega, a34 h j v r⟩)) ?_
 refine cW (fun k : Nat => k ≤ 4 ∧ ∀ j, j < k → [g, i, l, m].getD j false = true) (fun k => [(0, lw b), (9, .agg ([g, i, l, m].map Value.bool).toArray), (10, iQ k)]) (fun _ => fy b (its, fz [g, i, l, m] now) :: R) (fun k => 4 - k) 0 ?_ ?_
 grind
 intro k ⟨x, q⟩
 refine aw ?_
 refine ai (fun s => ?_) fun s => ?_
 have n : k < 4 := by omega
 obtain ⟨u, y⟩ : ∃ u, [g, i, l, m].getD k false = u := ⟨_, rfl⟩
 have p : ([g, i, l, m].map Value.bool)[k]? = some (.bool u) := by
  grind
 refine aa (Iw Np iN nP rfl rfl rfl n p) ?_
 refine ai (fun t => ?_) fun t => ?_
 refine ax ?_
 have e := LZ (us := [g, i, l, m]) (k := k) (by omega) q (by grind)
 refine aG ?_
 rw [e]; rfl
 refine aa bW ?_
 refine bR (k + 1) ?_
 grind
 refine ax ?_
 have e := a36 (us := [g, i, l, m]) fun j w => q j (by omega)
 refine aG ?_
 rw [e]; rfl
theorem a37 b its us now (h : us.length = 4) d (c : d < 0) : sQ W0 59 [lw b, iQ d] (fy b (its, fz us now) :: R) (.tuple #[iQ 0, iQ 1]) (fy b (its, fz us now) :: R) := by
 refine am Oe ntmps59 ?_
 refine ah (ap GL (Bw b its us now h)) ?_
 refine aC rfl (fun a => ?_) fun a => ?_
 refine au 9 ?_
 exact ax ao
 omega
theorem a38 b its us now (h : us.length = 4) d (f : 0 ≤ d) (c : kY us = none) : sQ W0 59 [lw b, iQ d] (fy b (its, fz us now) :: R) (.tuple #[iQ 0, iQ 2]) (fy b (its, fz us now) :: R) := by
 refine am Oe ntmps59 ?_
 refine ah (ap GL (Bw b its us now h)) ?_
 refine aC rfl (fun e => ?_) fun e => ?_
 omega
 refine aw ?_
 refine kv (ap call137 (M1 b its us now h)) ?_
 rw [c]
 refine aw ?_
 refine ai (fun a => ?_) fun a => ?_
 exact ax ao
 exact absurd (by decide) a
theorem a39 b its us now (h : us.length = 4) d (x : 0 ≤ d) k (r : kY us = some k) (y : its.length < 800) (t : Hp.Heap its its.length) hb (u : 0 ≤ now ∧ now < 4611686018427387904) : sP W0 59 [lw b, iQ d] (fy b (its, fz us now) :: R) (fun v B => v = .tuple #[iQ k, iQ 0] ∧ ∃ e, B = fy b (e, fz (us.set k true) (now + 1)) :: R ∧ e.Perm (its ++ [⟨d, now + 1, k, hb⟩]) ∧ Hp.Heap e e.length) := by
 have j : k < 4 := by rw [← h]; exact M0 r
 refine am Oe ntmps59 ?_
 refine ah (ap GL (Bw b its us now h)) ?_
 refine aC rfl (fun w => ?_) fun w => ?_
 omega
 refine aw ?_
 refine kv (ap call137 (M1 b its us now h)) ?_
 rw [r, Option.getD_some, Option.isSome_some]
 refine au 14 ?_
 refine aC rfl (fun s => ?_) fun s => ?_
 exact absurd s (by decide)
 refine au 3 ?_
 refine xP (b := b) (T := 183) (E := 250) (sz := 3) (f := gX) (o := 0) fun a c z => ?_
 refine aY (ae rfl (aM rfl) (ae rfl (kL rfl) ?_))
 refine ae rfl (d5 rfl a7z rfl aS rfl (by first | exact Qac _ | rfl)) ?_
 refine ae rfl (co db rfl (aI (by rw [QaW (by decide)]; exact LX h))) ?_
 refine aa bW ?_
 refine ar (dt (by grind [Qap, yI]) (a35 h)) ?_
 refine aa (eG j) ?_
 refine ar (dt (by grind [yI]) (LY h j)) ?_
 refine eK (B := fy b (its, fz (us.set k true) (now + 1)) :: R) (ny rfl rfl (by grind [yI]) rfl) ?_
 have g : ∀ l : List TIt, bE (aQ W0 (fy b (l, fz (us.set k true) (now + 1)) :: R)) b 5 [iQ (now + 1)] := fun l => E3 (its := l) (T := 183) (E := 250) (sz := 3) (f := gX) (o := 0) (by decide) (LX (by simp [h]))
 refine fj [(b, 5, [iQ (now + 1)])] 14 mixed rfl (bj (g _) aW) (fun i => ?_)
 refine aj 0 8 i ?_
 refine az 8 i (aE (ko (k := 0) rfl)) ?_
 refine aj 9 2 i ?_
 refine az 11 i (fT G6 Ge (aP Nh (aP aS fR)) (kh rfl Nh rfl rfl (Qab rfl) SetRL.eq (cu rfl aS rfl rfl (Qab rfl) SetL.eq fQ))) ?_
 refine aj 12 1 i ?_
 refine bQ 13 (ap Gs (a31 b its ⟨d, now + 1, k, hb⟩ (fz (us.set k true) (now + 1)) (by omega) t)) ?_; clear i
 rintro _ A ⟨rfl, m, n, p, q⟩
 obtain rfl := n.symm
 refine ⟨(bj (g _) aW), fun i => ?_⟩
 refine aJ ?_
 refine ax ?_
 exact ⟨_, ⟨rfl, m, rfl, p, q⟩, IO⟩
theorem a4a {W0 N K e R A T E sz o b α f} {d : List α} {cs} [u : Tk (nx T E sz f o) b A (d, cs) R] (l : ∀ x, (f x).length = sz) (m : d ≠ []) (v : 0 < sz)
    (h : ∀ g c i, o < cs.length → d.length ≤ c → c ≤ maxLen → (d.flatMap f ++ i).length = c * sz → av W0 N K e (pt b (ag (cs.set o (.slice (some ⟨g, 0, none⟩) d.length c)) T) :: pt g (ag (d.flatMap f ++ i) E) :: R)) : av W0 N K e A :=
  xP (b := b) (T := T) (E := E) (sz := sz) (f := f) (o := o) fun a c p => fV (r := osl E sz) (b := .slice a d.length c) (ku (fun _ j => by
      have := cF l d
      rw [j] at this
      have k : d.length = 0 := by
        grind
      exact absurd (Qbd.1 k) m) fun g n q i s j k w t => by
    cases s
    exact qf (List.Perm.swap _ _ _) (h g c i p j k t))
structure TOk (us : List Bool) (now : Int) (ti : List TIt) : Prop where
  len : us.length = 4
  nn : (ti.length : Int) ≤ now
  id : ∀ x ∈ ti, 0 ≤ x.i ∧ x.i < 4
structure Tm where
  us : List Bool
  now : Int
  ti : List TIt
def mR (b : Nat) (x : Tm) : HP := chk (fun C => ∃ its : List TIt, its.Perm x.ti ∧ Hp.Heap its its.length ∧ TOk x.us x.now x.ti ∧ C = [fy b (its, fz x.us x.now)])
section
variable {P : Program} {W0 : World} {N : FSz} {K : Act → World → Prop} {e : bi} {A R B : List HP} {b : Nat} {x : Tm} {f : FuncId} {args : List Value} {Post : Value → List HP → Prop}
theorem M3 (h : ∀ a, a.Perm x.ti → Hp.Heap a a.length → TOk x.us x.now x.ti → bF P W0 f args (fy b (a, fz x.us x.now) :: R) Post) : bF P W0 f args (mR b x :: R) Post :=
  qk fun C c => by obtain ⟨a, d, e, g, rfl⟩ := c; exact h a d e g
theorem yJ {its ti us now} [h : Tk fy b A (its, fz us now) R] (a : its.Perm ti) (c : Hp.Heap its its.length) (d : TOk us now ti) [k : Ent R B] : Ent A (mR b ⟨us, now, ti⟩ :: B) :=
  (Ent.ofPerm h.perm).trans ((Ent.cons k).trans (fK (R := B) (C := [_]) ⟨its, a, c, d, rfl⟩))
theorem a4b : Ent (pt b (ag ((fz [false, false, false, false] 0).set 0 ej) 183) :: R) (mR b ⟨[false, false, false, false], 0, []⟩ :: R) := by
 have e : Ent (pt b (ag ((fz [false, false, false, false] 0).set 0 ej) 183) :: R) (fy b ([], fz [false, false, false, false] 0) :: R) :=
   (Ent.cons (fm (E := 250) (sz := 3) (A := R) (B := R))).trans (fK (R := R) (C := [_, _]) ⟨by decide, none, 0, rfl⟩)
 exact e.trans (fK (R := R) (C := [_]) ⟨[], QaN _, fun c a => absurd a (QbE c), ⟨rfl, QbR _, fun x d => by cases d⟩, rfl⟩)
end
def yK (x : Tm) (d : Int) : Int := if d < 0 then 1 else if kY x.us = none then 2 else 0
def yL (x : Tm) (d : Int) : Nat := if d < 0 then 0 else (kY x.us).getD 0
def tE (x : Tm) (d : Int) : Tm :=
  if h : 0 ≤ d ∧ 0 ≤ x.now + 1 ∧ x.now + 1 < 10000000000000000000 then (match kY x.us with | some k => ⟨x.us.set k true, x.now + 1, x.ti ++ [⟨d, x.now + 1, k, h.2⟩]⟩ | none => x) else x
theorem a4c b x d (o : x.now < 700) : sQ W0 59 [lw b, iQ d] (mR b x :: R) (.tuple #[iQ (yL x d), iQ (yK x d)]) (mR b (tE x d) :: R) := by
 obtain ⟨i, a, w⟩ := x
 refine M3 fun e f j c => ?_
 dsimp only at f j c o ⊢
 have p : 0 ≤ a := by have := c.nn; omega
 have z := f.length_eq
 by_cases g : d < 0
 rw [yK, yL, tE, Qad g, Qad g, dif_neg (by omega)]
 refine gQ (a37 b e i a c.len d g) fun v B h => ?_
 obtain ⟨rfl, rfl⟩ := h
 exact ⟨_, ⟨rfl, rfl⟩, yJ f j c⟩
 have m : 0 ≤ d ∧ 0 ≤ a + 1 ∧ a + 1 < 10000000000000000000 := by omega
 rw [yK, yL, tE, Qaa g, Qaa g, dif_pos m]
 dsimp only
 cases l : kY i with
 | none =>
  refine gQ (a38 b e i a c.len d (by omega) l) fun v B h => ?_
  obtain ⟨rfl, rfl⟩ := h
  exact ⟨_, ⟨rfl, rfl⟩, yJ f j c⟩
 | some k =>
  have r : k < 4 := by rw [← c.len]; exact M0 l
  have := c.nn
  refine gQ (a39 b e i a c.len d (by omega) k l (by omega) j m.2 (by omega)) fun v B h => ?_
  obtain ⟨rfl, n, rfl, s, t⟩ := h
  refine ⟨_, ⟨rfl, rfl⟩, yJ (s.trans (f.append_right _)) t ⟨by rw [Qap]; exact c.len, ?_, fun y u => ?_⟩⟩
  grind
  rcases QaS.1 u with q | q
  exact c.id y q
  grind
def jd (us : List Bool) (F : List TIt) : List Bool := us.mapIdx fun j u => u && !(F.any fun x => x.i == (j : Int))
theorem tF us F : (jd us F).length = us.length := by simp [jd]
theorem a4d us : jd us [] = us := by
 apply QaP (by simp [jd])
 intro i a b
 simp [jd]
theorem Fl us F (i : Nat) h : (jd us F)[i]'(by rw [tF]; exact h) = (us[i] && !(F.any fun x => x.i == i)) := by simp [jd]
theorem a4e {us F x} {k : Nat} (c : x.i = (k : Int)) : (jd us F).set k false = jd us (F ++ [x]) := by
 apply QaP (by simp [jd])
 intro i d e
 have a : i < us.length := by grind [tF]
 have b : ((F ++ [x]).any fun y => y.i == (i : Int)) = ((F.any fun y => y.i == (i : Int)) || decide (k = i)) := by
  grind
 rw [List.getElem_set, Fl us (F ++ [x]) i a, Fl us F i a, b]
 by_cases q : k = i
 grind
 grind
theorem M4 {us F F'} (h : F.Perm F') : jd us F = jd us F' := by
 grind [jd]
def kZ (now : Int) (x : TIt) : Bool := decide (x.d ≤ now)
def tG (x : Tm) (now : Int) : Tm := ⟨jd x.us (x.ti.filter (kZ now)), x.now, x.ti.filter fun y => !kZ now y⟩
def mT (x : Tm) (now : Int) : Nat := (x.ti.filter (kZ now)).length
theorem M5 {c F e : List TIt} {now} (f : (c ++ F).Perm e) (g : ∀ y ∈ F, kZ now y = true) (h : ∀ y ∈ c, kZ now y = false) : F.Perm (e.filter (kZ now)) ∧ c.Perm (e.filter fun y => !kZ now y) := by
 have a := f.filter (kZ now)
 have b := f.filter (fun y => !kZ now y)
 rw [QbF, QcI.2 (fun y d => by rw [h y d]; decide), QaT.2 g, Qaw] at a
 rw [QbF, QaT.2 (fun y d => by rw [h y d]; rfl), QcI.2 (fun y d => by rw [g y d]; decide), Qav] at b
 exact ⟨a, b⟩
theorem M6 {x y : TIt} (h : Hk.ky x ≤ Hk.ky y) : x.d ≤ y.d := by
 have a : Hk.ky x = x.s + x.d * 100000000000000000000 := rfl
 have b : Hk.ky y = y.s + y.d * 100000000000000000000 := rfl
 have c := x.hs
 have e := y.hs
 omega
structure Fr29 where
  its : List TIt
  F : List TIt
  a : Option Addr
  c : Nat
theorem a4f b x now (hb : x.now < 700) : sP W0 203 [lw b, iQ now] (mR b x :: R) (fun v B => ∃ a c, v = .slice a (mT x now) c ∧ B = mR b (tG x now) :: R) := by
 obtain ⟨r, s, w⟩ := x
 refine M3 fun A h1 h2 d => ?_
 dsimp only at h1 h2 d hb ⊢
 have x0 : w.length < 800 := by have := d.nn; omega
 refine am func203 ntmps203 ?_
 refine ah (ap GL (Bw b A r s d.len)) ?_
 refine ge (fun X : Fr29 => (X.its ++ X.F).Perm w ∧ Hp.Heap X.its X.its.length ∧ ∀ y ∈ X.F, kZ now y = true) (fun X => [(0, lw b), (1, iQ now), (5, .slice X.a X.F.length X.c)]) (fun X => fy b (X.its, fz (jd r X.F) s) :: osl 3 1 (.slice X.a X.F.length X.c) (X.F.map fun y => Value.int .i64 y.i) :: R) (fun X => X.its.length) ⟨A, [], none, 0⟩ ?_ ?_ ?_ ?_
 grind
 · repeat (first | exact bK | refine aZ rfl ?_)
 grind [a4d, Ent.cons, fm]
 intro ⟨l, F, a, c⟩ ⟨u, C, M⟩
 dsimp only at u C M ⊢
 have N : (jd r F).length = 4 := by rw [tF]; exact d.len
 have O := u.length_eq
 rw [Qae] at O
 refine aw ?_
 refine ah (ap call86 (LU b l (fz (jd r F) s))) ?_
 refine bN (fun m => ?_) fun m => ?_
 have n : l ≠ [] := fun e => by rw [e] at m; exact absurd m (by decide)
 have p : 0 < l.length := Qcx.2 n
 have D := a3R l
 refine a4a (b := b) (T := 183) (E := 250) (sz := 3) (f := gX) (o := 0) lO n (by decide) fun g cc sp P k1 k2 k3 => ?_
 refine aw ?_
 refine aa (aE (aI (eQ P))) ?_
 refine aa (jQ wQ C9 rfl rfl (i := 0) rfl p (by first | exact Qac _ | rfl)) ?_
 refine aa (aE (aI (D sp 0 0 p (by decide)))) ?_
 refine ai (fun Q => ?_) fun Q => ?_
 refine eK (B := fy b (l, fz (jd r F) s) :: osl 3 1 (.slice a F.length c) (F.map fun y => Value.int .i64 y.i) :: R) (kG lO rfl rfl P rfl k1 k2 k3) ?_
 refine aw ?_
 refine aF rfl (ap Gv (a32 b l (fz (jd r F) s) (by omega) n C)) ?_
 rintro _ B_ ⟨y, G, rfl, S, t, U, H⟩
 obtain rfl := S.symm
 have V : y ∈ l := t.mem_iff.1 (by simp)
 have W : y ∈ w := u.mem_iff.1 (List.mem_append_left _ V)
 have x2 := d.id y W
 obtain ⟨k, hk⟩ : ∃ k : Nat, y.i = (k : Int) := ⟨y.i.toNat, by omega⟩
 have I : k < 4 := by omega
 have x1 : kZ now y = true := by
  have := H (l.getD 0 default) (by
    rw [Qas, QaV p]
    exact QaF p)
  exact Qai (Int.le_trans (M6 this) Q)
 refine aa (sM G6 (fun _ h => by cases h) rfl) ?_
 refine bu fun b6 => ?_
 refine ar aA ?_
 refine xP (b := b) (T := 183) (E := 250) (sz := 3) (f := gX) (o := 0) fun a2 c2 x3 => ?_
 refine bz [b6] 7 fun Y => ?_
 refine aj 0 5 Y ?_
 refine az 5 Y (fB Np iN rfl rfl hk I (by first | exact Qac _ | rfl)) ?_
 refine cm 6 (dt (by grind [Qap, yI]) ((LY N I).trans (by rw [a4e hk]))) fun Y => ?_
 refine aJ ?_
 refine eK (B := fy b (G, fz (jd r (F ++ [y])) s) :: pt b6 (ag (gX y) 250) :: osl 3 1 (.slice a F.length c) (F.map fun y => Value.int .i64 y.i) :: R) (ny rfl rfl (by grind [yI, tF]) rfl) ?_
 refine aw ?_
 refine dw (jP eJ aS ml rfl rfl rfl rfl rfl (by decide) (by decide)) fun b2 => ?_
 refine aF rfl (eE (sz := 1) (by_ := 8) (info := Tryz.t3) eJ (by kernel_rfl) rfl rfl rfl rfl (by decide) rfl rfl en rfl rfl (by simp only [maxLen]; omega) (by omega)) ?_
 rintro _ _ ⟨a3, c3, rfl, rfl⟩
 refine aw ?_
 refine x9 ⟨G, F ++ [y], a3, c3⟩ ?_ ?_ ?_ ?_
 refine ⟨?_, U, fun z L => ?_⟩
 refine List.Perm.trans ?_ u
 show (G ++ (F ++ [y])).Perm (l ++ F)
 refine List.Perm.trans ?_ (t.append_right F)
 rw [QaJ]
 exact QaY.append_left G
 grind
 show G.length < l.length
 have := t.length_eq
 rw [Qae] at this
 simp only [QaK, Qbr] at this
 omega
 · dsimp only
   rw [show (F ++ [y]).length = F.length + 1 by simp]
   repeat (first | exact bK | refine aZ rfl ?_)
 dsimp only
 rw [show (F ++ [y]).length = F.length + 1 by simp, QaH, QaM, Qcg]
 exact IO
 refine ac ?_
 obtain ⟨J, K⟩ := M5 (now := now) u M (fun y Z => by
  refine Qal fun q => Q ?_
  obtain ⟨j, hj, rfl⟩ := Qbb.1 Z
  have := Hp.heap_min C j hj
  rw [Hp.us, Hp.us_eq hj] at this
  exact Int.le_trans (M6 this) q)
 refine ⟨_, ⟨a, c, ?_, rfl⟩, ?_⟩
 show Value.slice a _ c = Value.slice a (w.filter (kZ now)).length c
 rw [J.length_eq]
 rw [tG, ← M4 J]
 refine Ent.trans (B := fy b (l, fz (jd r F) s) :: R) (kG lO rfl rfl P rfl k1 k2 k3) ?_
 exact yJ K C ⟨by rw [tF]; exact d.len, by have := d.nn; have := K.length_eq; dsimp only; omega, fun z L => d.id z (QaD.1 L).1⟩
 refine ac ?_
 have n : l = [] := Qbd.1 (by omega)
 subst n
 obtain ⟨J, K⟩ := M5 u M (fun y Z => by cases Z)
 refine ⟨_, ⟨a, c, ?_, rfl⟩, ?_⟩
 show Value.slice a _ c = Value.slice a (w.filter (kZ now)).length c
 rw [J.length_eq]
 rw [tG, ← M4 J]
 exact yJ K C ⟨by rw [tF]; exact d.len, by have := d.nn; have := K.length_eq; dsimp only; omega, fun z L => d.id z (QaD.1 L).1⟩
structure Gu where
  c : Cpu
  qa : QS
  qb : QS
  qc : QS
  ls : List Li
  ln : Int
  tm : Tm
  halted : Bool
  rd : List Nat
  clock : Nat
  es : List Evt
  bud : Nat
structure Gz where
  x : Bd
  q0 : Nat
  q1 : Nat
  q2 : Nat
  pv : Nat
  ps : Nat
  pm : Nat
  pb : Nat
  bx : Nat
  tr : Nat
  wv : Value
  i : Nat
  c : Cfg
@[reducible] def mg (z : Gz) (g : Gu) : List Value := [pV z.x.r, pV z.x.c, pV z.x.m, pV z.q0, pV z.q1, pV z.q2, pV z.x.v, pV z.x.t, .bool g.halted, wV (bP g.rd 0), wV (bP g.rd 1), wV (bP g.rd 2), wV (bP g.rd 3)] ++ dy z.c ++ [.int .i64 z.i, z.wv, pV z.pb, pV z.pv, pV z.bx, pV z.tr, .int .i64 g.clock]
abbrev dA (z : Gz) (g : Gu) : Obj := ag (mg z g) 149
def dS (n : Nat) : Nat := n - 1
def pW (es : List Evt) (e : Evt) : List Evt := if es.length < 4096 then es ++ [e] else es
abbrev ov (g : Gu) (k : Int) (a b p : Nat) : Gu := { g with es := pW g.es ⟨k, ((dS g.clock : Nat) : Int), a, b, p, g.c.rl⟩ }
abbrev mV (g : Gu) (pc : Nat) : Gu := { g with c := ⟨g.c.rl, pc, g.c.cs⟩ }
abbrev gY (g : Gu) : Gu := { g with halted := true }
abbrev dG (g : Gu) : Gu := { g with bud := g.bud + 3 }
abbrev uQ (g : Gu) (cause tval : Nat) : Gu := { g with c := ⟨g.c.rl, d9 g.c.cs 1, m4 g.c.cs g.c.pc cause tval⟩ }
def fI (g : Gu) (cause tval : Nat) : Int × Gu :=
  if d9 g.c.cs 1 = 0 then (4, ov (gY g) 6 cause tval g.c.pc) else (1, ov (uQ g cause tval) 1 cause tval g.c.pc)
def qZ (c : Nat) (f : Int) : Nat := u32 ((c : Int) + ((u32 (16 * ((u32 f : Nat) : Int)) : Nat) : Int))
def oy (w : Nat) (n : Int) : Nat := if n = 1 then u32 (IntKind.wrap .i32 (IntKind.wrap .i8 (w : Int))) else if n = 2 then u32 (IntKind.wrap .i32 (IntKind.wrap .i16 (w : Int))) else w
theorem a4g {w n} (h : w < 4294967296) : oy w n < 4294967296 := by
 grind [oy, dJ]
abbrev pn (g : Gu) (fr : List aD) (pg : List Pl) (a : Nat) (w k : Int) : Nat := pj fr pg (i6 g.c.cs) (gH g.c.cs) (!dR g.c.cs) a w k
abbrev pp (g : Gu) (fr : List aD) (pg : List Pl) (a : Nat) (w k : Int) : Int := lL fr pg (i6 g.c.cs) (gH g.c.cs) (!dR g.c.cs) a w k
abbrev wE (g : Gu) (fr : List aD) (pg : List Pl) (a : Nat) (w : Int) (x : Nat) : List aD := lM fr pg (i6 g.c.cs) (gH g.c.cs) (!dR g.c.cs) a w x
abbrev Fo (g : Gu) (d v pc : Nat) : Gu := { g with c := ⟨j8 g.c.rl d v, pc, g.c.cs⟩ }
def pq (g : Gu) (fr : List aD) (pg : List Pl) (e : Eff) : Int × Gu :=
  if pp g fr pg e.addr e.width 1 ≠ 0 then fI (dG g) (qZ 4 (pp g fr pg e.addr e.width 1)) e.addr
  else (0, Fo (dG g) e.d (if e.signed then oy (pn g fr pg e.addr e.width 1) e.width else pn g fr pg e.addr e.width 1) e.pc)
def pr (g : Gu) (fr : List aD) (pg : List Pl) (e : Eff) : Int × Gu :=
  if pp g fr pg e.addr e.width 2 ≠ 0 then fI (dG g) (qZ 5 (pp g fr pg e.addr e.width 2)) e.addr else (0, mV (dG g) e.pc)
def ii (g : Gu) (fr : List aD) (pg : List Pl) (e : Eff) : (Int × Gu) × List aD :=
  if e.k = 1 then (pq g fr pg e, fr)
  else if e.k = 2 then (pr g fr pg e, wE g fr pg e.addr e.width e.val)
  else if e.k = 3 then (fI g e.cause e.tval, fr)
  else if e.k = 6 then ((0, mV g e.pc), fr)
  else if e.k = 5 then ((4, ov (mV (gY g) e.pc) 4 0 0 g.c.pc), fr)
  else if e.k = 4 then ((3, g), fr)
  else ((0, g), fr)
abbrev jK (g : Gu) (c : Cpu) : Gu := { g with c := c }
def jv (i : Nat) (g : Gu) (fr : List aD) (pg : List Pl) : (Int × Gu) × List aD :=
  if pp g fr pg g.c.pc 4 0 ≠ 0 then (fI (dG g) (qZ 3 (pp g fr pg g.c.pc 4 0)) g.c.pc, fr)
  else if gG (fq (pn g fr pg g.c.pc 4 0)) = false then (fI (dG g) 1 (pn g fr pg g.c.pc 4 0), fr)
  else ii (jK (dG g) (jX i (dS g.clock) (fq (pn g fr pg g.c.pc 4 0)) g.c).2) fr pg (jX i (dS g.clock) (fq (pn g fr pg g.c.pc 4 0)) g.c).1
abbrev iM (g : Gu) : Gu := { g with tm := tG g.tm ((dS g.clock : Nat) : Int), ls := if mT g.tm ((dS g.clock : Nat) : Int) = 0 then g.ls else me g.ls g.ln 7, ln := if mT g.tm ((dS g.clock : Nat) : Int) = 0 then g.ln else k8 g.ls g.ln 7 }
abbrev a4h (g : Gu) : Gu := { g with ls := mf g.ls }
def fJ (g : Gu) : Bool × Gu :=
  if od g.c.cs then (match jJ g.ls with
    | some n => (true, ov (uQ (a4h g) (256 + n) 0) 3 (256 + n) 0 g.c.pc)
    | none => (false, g)) else (false, g)
abbrev j0 (g : Gu) : Gu := { g with clock := g.clock + 1 }
def eS (i : Nat) (g : Gu) (fr : List aD) (pg : List Pl) : (Int × Gu) × List aD :=
  if g.halted then ((5, j0 g), fr)
  else if (fJ (iM (j0 g))).1 then ((2, (fJ (iM (j0 g))).2), fr)
  else jv i (fJ (iM (j0 g))).2 fr pg
theorem a4i b es k ck x y z rl (e : rl.length = 16) : sP W0 167 [pV b, .agg ([Value.int .i64 k, iQ ck, wV x, wV y, wV z] ++ rl.map wV).toArray] (gB b es :: R) (fun v B => ∃ q, v = iQ q ∧ B = gB b (pW es ⟨k, ck, x, y, z, rl⟩) :: R) := by
 by_cases d : es.length < 4096
 rw [pW, Qad d]
 refine gQ (a0F b es k ck x y z rl e d) fun v B f => ?_
 obtain ⟨rfl, rfl⟩ := f
 exact ⟨_, ⟨0, rfl, rfl⟩, ent_refl⟩
 rw [pW, Qaa d]
 refine am func167 ntmps167 ?_
 refine bB fun h => ?_
 refine ah (ap call74 (JN b es)) ?_
 refine Ew (b := b) fun a c => ?_
 refine aw ?_
 refine aC rfl (fun g => ?_) fun g => ?_
 refine au 8 ?_
 refine ac ?_
 exact ⟨_, ⟨2, rfl, rfl⟩, AW rfl rfl⟩
 omega
structure GOk (z : Gz) (g : Gu) (N : Nat) : Prop where
  c : CpOk g.c
  i : z.i < 4
  clk : g.clock ≤ N
  bud : g.bud ≤ 16 * N
  ln : g.ln ≤ 1000 * N
  tn : g.tm.now ≤ N
theorem GOk.k {z g N} (h : GOk z g N) (a : N ≤ 700) : g.clock < 1000000000 := by have := h.clk; omega
theorem GOk.cpu {z g g' N} (h : GOk z g N) (a : CpOk g'.c) (d : g'.clock = g.clock) (e : g'.bud ≤ g.bud + 6) (f : g'.ln = g.ln) (b : g'.tm = g.tm) : GOk z g' (N + 1) :=
  ⟨a, h.i, by have := h.clk; omega, by have := h.bud; omega, by have := h.ln; omega, by rw [b]; have := h.tn; omega⟩
abbrev gN (gb : Nat) (z : Gz) (g : Gu) (R : List HP) : List HP := pt gb (dA z g) :: pt z.x.r (dF g.c.rl g.c.pc) :: gB z.tr g.es :: R
abbrev gT (gb : Nat) (z : Gz) (g : Gu) (R : List HP) : List HP := pt gb (dA z g) :: pt z.x.r (dF g.c.rl g.c.pc) :: pt z.x.c (eg g.c.cs z.i) :: gB z.tr g.es :: R
abbrev gM (gb : Nat) (z : Gz) (g : Gu) (fr : List aD) (pg : List Pl) (R : List HP) : List HP := pt gb (dA z g) :: pt z.x.r (dF g.c.rl g.c.pc) :: pt z.x.c (eg g.c.cs z.i) :: gB z.tr g.es :: gC z.x.m ⟨z.pv, z.ps, z.pm, g.bud, fr, pg⟩ :: bD z.ps fr :: R
section
variable (W0 : World) (R : List HP) (gb : Nat) (z : Gz) (g : Gu) (N : Nat) (fr : List aD) (pg : List Pl)
theorem nJ : sQ W0 63 [pV gb] (pt gb (dA z g) :: R) (.bool false) (pt gb (dA z g) :: R) := by
 refine am func63 ntmps63 ?_
 refine dk rfl rfl rfl (fun a => ?_) fun a => ?_
 cases a
 refine aw ?_
 exact ac ao
theorem Bz (a : g.clock < 1000000000) : sQ W0 168 [pV gb] (pt gb (dA z g) :: R) (iQ (dS g.clock)) (pt gb (dA z g) :: R) := by
 refine am func168 ntmps168 ?_
 refine aa gz ?_
 refine aa (xT rfl rfl (show _ = ((dS g.clock : Nat) : Int) by unfold dS; split <;> omega)) ?_
 exact ac ao
theorem tH (e : g.clock < 1000000000) (b : g.c.rl.length = 16) k x y w : sQ W0 80 [pV gb, iQ k, wV x, wV y, wV w] (gN gb z g R) (.tuple #[]) (gN gb z (ov g k x y w) R) := by
 refine am func80 ntmps80 ?_
 refine bz [gb] 18 fun a => ?_
 refine aj 0 6 a ?_
 refine aj 7 8 a ?_
 refine bY 6 (ap GM (Bz W0 _ gb z g e)) fun a => ?_
 refine bY 15 (ap call81 (JK z.x.r g.c.rl g.c.pc b)) fun a => ?_
 refine az 16 a (EF b rfl rfl rfl rfl rfl rfl) ?_
 refine bQ 17 (ap call167 (a4i z.tr g.es k ((dS g.clock : Nat) : Int) x y w g.c.rl b)) ?_; clear a
 rintro _ f ⟨q, rfl, d⟩
 obtain rfl := d.symm
 refine ⟨aT, fun a => ?_⟩
 refine aJ ?_
 refine bU (.inr rfl) .nil ?_
 exact ao
theorem yM (h : GOk z g N) (b : N ≤ 700) cause tval (e : cause < 4294967296) (f : tval < 4294967296) : sQ W0 209 [pV gb, wV cause, wV tval] (gT gb z g R) (iQ (fI g cause tval).1) (gT gb z (fI g cause tval).2 R) := by
 obtain ⟨i, a⟩ : ∃ t, (d9 g.c.cs 1 != 0) = t := ⟨_, rfl⟩
 have d : d9 g.c.cs 1 = 0 ↔ i = false := by grind
 rw [fI]
 refine am func209 ntmps209 ?_
 refine ah (ap sx (qP z.x.r g.c.rl g.c.pc h.c.r.len)) ?_
 refine ah (ap call278 (L9 z.x.c h.c.cs)) ?_
 rw [a]
 refine ai (fun j => ?_) fun j => ?_
 rw [Qad (d.2 (by grind))]
 refine ar (iU (by exact rfl : (mg z g).set 8 (.bool true) = mg z (gY g))) ?_
 refine ah (cN vh (tH W0 _ gb z (gY g) (h.k b) h.c.r.len 6 cause tval g.c.pc)) ?_
 exact ac ao
 rw [Qaa (fun q => by have := d.1 q; simp_all)]
 refine ah (ap call206 (Lb z.x.c g.c.pc cause tval h.c.cs h.c.pc e f)) ?_
 refine ah (ap Cx (y9 z.x.r g.c.rl g.c.pc (d9 g.c.cs 1) h.c.r.len)) ?_
 refine ah (cN vh (tH W0 _ gb z (uQ g cause tval) (h.k b) h.c.r.len 1 cause tval g.c.pc)) ?_
 exact ac ao
theorem M7 g a b : (fI g a b).2.bud = g.bud := by unfold fI; split <;> rfl
theorem Fp {W0 R} c f : sQ W0 210 [wV c, iQ f] R (wV (qZ c f)) R := by
 refine am func210 ntmps210 ?_
 refine aa (bG (d8 f)) ?_
 refine aa (qg rfl rfl (d8 _)) ?_
 refine aa (dh rfl rfl (d8 _)) ?_
 exact ac ao
theorem BA (a : g.c.rl.length = 16) pc : sQ W0 348 [pV gb, wV pc] (pt gb (dA z g) :: pt z.x.r (dF g.c.rl g.c.pc) :: R) (iQ 0) (pt gb (dA z g) :: pt z.x.r (dF g.c.rl pc) :: R) := by
 refine am func348 ntmps348 ?_
 refine ah (ap Cx (y9 z.x.r g.c.rl g.c.pc pc a)) ?_
 exact ac ao
theorem a4j {W0 R} w n : sQ W0 347 [wV w, iQ n] R (wV (oy w n)) R := by
 refine am func347 ntmps347 ?_
 refine ai (fun a => ?_) fun a => ?_
 refine aa (bG rfl) ?_
 refine aa (bG rfl) ?_
 refine aa (bG (d8 _)) ?_
 refine ac ?_
 rw [oy, Qad (by omega)]
 exact ao
 refine ai (fun b => ?_) fun b => ?_
 refine aa (bG rfl) ?_
 refine aa (bG rfl) ?_
 refine aa (bG (d8 _)) ?_
 refine ac ?_
 rw [oy, Qaa (by omega), Qad (by omega)]
 exact ao
 refine ac ?_
 rw [oy, Qaa (by omega), Qaa (by omega)]
 exact ao
theorem GOk.tick {z g N} (h : GOk z g N) : GOk z (dG g) (N + 1) := h.cpu h.c rfl (by grind) rfl rfl
theorem uR {fr pg on root user va w kind} (b : cz fr) : pj fr pg on root user va w kind < 4294967296 := by
 unfold pj
 split
 split
 unfold kx
 split
 rename_i c
 obtain ⟨i, d, a⟩ := qx c
 rw [d, Qaf]
 exact Wo (b.get a).2
 decide
 decide
 decide
theorem M8 {fr pg on root user va w x} (a : cz fr) : cz (lM fr pg on root user va w x) := by
 grind [lM, Ab]
theorem M9 {fr pg on root user va w x} : (lM fr pg on root user va w x).length = fr.length := by
 grind [lM, xt]
theorem a4k (q : ∀ A, bE (aQ W0 A) 1 0 jc) (h : GOk z g N) (v : N ≤ 690) (B : cz fr) e (l : EfOk e) : sQ W0 291 [pV gb, .agg (cK e).toArray] (gM gb z g fr pg R) (iQ (pq g fr pg e).1) (gM gb z (pq g fr pg e).2 fr pg R) := by
 obtain ⟨F, f⟩ : ∃ F, pp g fr pg e.addr e.width 1 = F := ⟨_, rfl⟩
 obtain ⟨w, i⟩ : ∃ w, pn g fr pg e.addr e.width 1 = w := ⟨_, rfl⟩
 have C : w < 4294967296 := by grind [uR]
 have s := h.tick
 have t := h.bud
 rw [pq, f, i]
 refine lG func291 ntmps291 rfl rfl ?_
 refine aO (aY ?_)
 refine eH (kg rfl) fun j => ?_
 refine ae rfl (bC rfl) (aL (aH (aO ?_)))
 refine bz [gb, j] 21 fun a => ?_
 refine aj 0 10 a ?_
 refine aj 11 4 a ?_
 refine bY 10 (ap CC (yz z.x.c h.c.cs)) fun a => ?_
 refine bQ 15 (cv call207 (LD W0 _ z.x.m z.pv z.ps z.pm g.bud fr pg q (by omega) (i6 g.c.cs) (gH g.c.cs) (!dR g.c.cs) e.addr l.addr e.width 1)) ?_; clear a
 rintro _ p ⟨rfl, b⟩
 obtain rfl := b.symm
 rw [show lL fr pg (i6 g.c.cs) (gH g.c.cs) (!dR g.c.cs) e.addr e.width 1 = F from f, show pj fr pg (i6 g.c.cs) (gH g.c.cs) (!dR g.c.cs) e.addr e.width 1 = w from i]
 refine ⟨aT, fun a => ?_⟩
 refine aj 16 5 a ?_
 refine hQ ?_
 refine aH (aO (aO (aY (ae rfl (aM rfl) (ae rfl (oJ rfl rfl) (aL (aH ?_)))))))
 refine aC rfl (fun n => ?_) fun n => ?_
 refine aO ?_
 refine bz [j] 7 fun a => ?_
 refine aj 0 2 a ?_
 refine aj 3 2 a ?_
 refine bY 2 (aB Of (Fp 4 F)) fun a => ?_
 refine kt 5 (by kernel_rfl) rfl rfl (lW CE rfl (yM W0 _ gb z (dG g) (N + 1) s (by omega) (qZ 4 F) e.addr (dJ _) l.addr)) rfl ?_; clear a
 rintro _ p ⟨rfl, b⟩
 obtain rfl := b.symm
 refine ⟨(bL aW), fun a => ?_⟩
 refine aj 6 1 a ?_
 refine aJ ?_
 refine ac ?_
 rw [Qad n]
 unfold gM
 rw [M7]
 exact ao
 refine au 2 ?_
 refine cy (fun _ : Unit => True) (fun _ => [(0, pV gb), (3, pV j), (5, wV (if e.signed then oy w e.width else w))]) (fun _ => pt j (ag (cK e) 267) :: gM gb z (dG g) fr pg R) ?_ ?_
 refine au 6 ?_
 refine ai (fun o => ?_) fun o => ?_
 refine ah (aB call347 (a4j w e.width)) ?_
 refine df () ?_ ?_ ?_
 trivial
 · rw [Qad o]
   repeat (first | exact bK | refine aZ rfl ?_)
 exact IO
 refine df () ?_ ?_ ?_
 trivial
 · rw [Qaa o]
   repeat (first | exact bK | refine aZ rfl ?_)
 exact IO
 intro _ _
 rw [Qaa n]
 obtain ⟨y, u⟩ : ∃ y, (if e.signed then oy w e.width else w) = y := ⟨_, rfl⟩
 rw [u]
 have k : gK (e.d : Int) = true := by have := l.d; simp only [gK, Qak]; omega
 refine aw ?_
 refine bz [gb, j] 9 fun a => ?_
 refine aj 0 8 a ?_
 refine bQ 8 (ap Cy (F2 z.x.r g.c.rl g.c.pc y e.d h.c.r.len)) ?_; clear a
 rintro _ p ⟨rfl, b⟩
 obtain rfl := b.symm
 rw [Qad k, Qad k, Qaf]
 refine ⟨aT, fun a => ?_⟩
 refine aJ ?_
 refine ah (cv GN (BA W0 _ gb z (Fo (dG g) e.d y g.c.pc) (by show (j8 g.c.rl e.d y).length = 16; unfold j8; split <;> simp [h.c.r.len]) e.pc)) ?_
 exact ac ao
theorem a4l (o : ∀ A, bE (aQ W0 A) 1 0 jc) (h : GOk z g N) (t : N ≤ 690) (u : cz fr) e (j : EfOk e) : sQ W0 292 [pV gb, .agg (cK e).toArray] (gM gb z g fr pg R) (iQ (pr g fr pg e).1) (gM gb z (pr g fr pg e).2 (wE g fr pg e.addr e.width e.val) pg R) := by
 obtain ⟨F, i⟩ : ∃ F, pp g fr pg e.addr e.width 2 = F := ⟨_, rfl⟩
 obtain ⟨k, b⟩ : ∃ f, wE g fr pg e.addr e.width e.val = f := ⟨_, rfl⟩
 have p := h.tick
 have q := h.bud
 rw [pr, i, b]
 refine lG func292 ntmps292 rfl rfl ?_
 refine aO (aY ?_)
 refine eH (kg rfl) fun n => ?_
 refine ae rfl (bC rfl) (aL (aH (aO (aO ?_))))
 refine bz [gb, n] 19 fun a => ?_
 refine aj 0 10 a ?_
 refine aj 11 6 a ?_
 refine bY 10 (ap CC (yz z.x.c h.c.cs)) fun a => ?_
 refine bQ 17 (cv call349 (a3j W0 _ z.x.m z.pv z.ps z.pm g.bud fr pg o (by omega) (i6 g.c.cs) (gH g.c.cs) (!dR g.c.cs) e.addr j.addr e.width e.val j.val)) ?_; clear a
 rintro _ s ⟨rfl, d⟩
 obtain rfl := d.symm
 rw [show lL fr pg (i6 g.c.cs) (gH g.c.cs) (!dR g.c.cs) e.addr e.width 2 = F from i, show lM fr pg (i6 g.c.cs) (gH g.c.cs) (!dR g.c.cs) e.addr e.width e.val = k from b]
 refine ⟨aT, fun a => ?_⟩
 refine aj 18 1 a ?_
 refine hQ ?_
 refine aH (aO (aY (ae rfl (aM rfl) (ae rfl (oJ rfl rfl) (aL (aH ?_))))))
 refine aC rfl (fun l => ?_) fun l => ?_
 refine aO ?_
 refine bz [n] 7 fun a => ?_
 refine aj 0 2 a ?_
 refine aj 3 2 a ?_
 refine bY 2 (aB Of (Fp 5 F)) fun a => ?_
 refine kt 5 (by kernel_rfl) rfl rfl (lW CE rfl (yM W0 _ gb z (dG g) (N + 1) p (by omega) (qZ 5 F) e.addr (dJ _) j.addr)) rfl ?_; clear a
 rintro _ s ⟨rfl, d⟩
 obtain rfl := d.symm
 refine ⟨(bL aW), fun a => ?_⟩
 refine aj 6 1 a ?_
 refine aJ ?_
 refine ac ?_
 rw [Qad l]
 unfold gM
 rw [M7]
 exact ao
 refine aw ?_
 refine ah (cv GN (BA W0 _ gb z (dG g) h.c.r.len e.pc)) ?_
 refine ac ?_
 rw [Qaa l]
 exact ao
theorem a4m (h : GOk z g N) (c : N ≤ 690) e (b : EfOk e) : sQ W0 293 [pV gb, .agg (cK e).toArray] (gM gb z g fr pg R) (.int .i64 (fI g e.cause e.tval).1) (gM gb z (fI g e.cause e.tval).2 fr pg R) := by
 have a : (fI g e.cause e.tval).2.bud = g.bud := by grind [fI]
 refine jz 2 func293 ntmps293 ?_
 refine eH (kg rfl) fun d => ?_
 refine au 10 ?_
 refine eh 4 (lW CE rfl (yM W0 _ gb z g N h (by omega) e.cause e.tval (by have := b.cause; omega) b.tval)) ?_
 refine ac ?_
 unfold gM
 rw [a]
 exact ⟨_, ⟨rfl, rfl⟩, IO⟩
theorem a4n (b : g.c.rl.length = 16) e : sQ W0 294 [pV gb, .agg (cK e).toArray] (gM gb z g fr pg R) (iQ 0) (gM gb z (mV g e.pc) fr pg R) := by
 refine am func294 ntmps294 ?_
 refine bB fun d => ?_
 refine aF rfl (ap call350 (a3k W0 _ z.x.m z.pv z.ps z.pm g.bud fr pg)) ?_
 rintro _ f ⟨q, rfl, a⟩
 obtain rfl := a.symm
 refine aw ?_
 refine ah (cv GN (BA W0 _ gb z g b e.pc)) ?_
 exact ac ao
theorem a4o (b : g.clock < 1000000000) (a : g.c.rl.length = 16) e : sQ W0 295 [pV gb, .agg (cK e).toArray] (gM gb z g fr pg R) (iQ 4) (gM gb z (ov (mV (gY g) e.pc) 4 0 0 g.c.pc) fr pg R) := by
 refine am func295 ntmps295 ?_
 refine bB fun d => ?_
 refine ah (ap sx (qP z.x.r g.c.rl g.c.pc a)) ?_
 refine ar (iU (by exact rfl : (mg z g).set 8 (.bool true) = mg z (gY g))) ?_
 refine ah (cv GN (BA W0 _ gb z (gY g) a e.pc)) ?_
 refine ah (cN vh (tH W0 _ gb z (mV (gY g) e.pc) b a 4 0 0 g.c.pc)) ?_
 exact ac ao
def Ma (f : FuncId) (e : Eff) (o : (Int × Gu) × List aD) : Prop := (∀ args w, (callFunc f args).run Tryz.prog w = .ok (.enter f args) w) ∧ ∀ R, bF Tryz.prog W0 f ([pV gb] ++ [.agg (cK e).toArray] ++ []) (gM gb z g fr pg R) (fun v B => v = .int .i64 o.1.1 ∧ B = gM gb z o.1.2 o.2 pg R)
theorem uS {f e o o'} (b : ∀ a w, (callFunc f a).run Tryz.prog w = .ok (.enter f a) w) (c : o = o') (h : ∀ R, bF Tryz.prog W0 f [pV gb, .agg (cK e).toArray] (gM gb z g fr pg R) (fun v B => v = iQ o'.1.1 ∧ B = gM gb z o'.1.2 o'.2 pg R)) : Ma W0 gb z g fr pg f e o := ⟨b, by rw [c]; exact h⟩
theorem a4p e : sQ W0 296 [pV gb, .agg (cK e).toArray] R (iQ 3) R := by
 refine am func296 ntmps296 ?_
 refine bB fun a => ?_
 exact ac ao
theorem a4q e : sQ W0 297 [pV gb, .agg (cK e).toArray] R (iQ 0) R := by
 refine am func297 ntmps297 ?_
 refine bB fun a => ?_
 exact ac ao
theorem Fq (j : ∀ A, bE (aQ W0 A) 1 0 jc) (h : GOk z g N) (a : N ≤ 690) (l : cz fr) e (b : EfOk e) : sP W0 213 [pV gb, iQ e.k] R (fun v B => ∃ f, v = .func (.func f) #[pV gb] #[] ∧ B = R ∧ Ma W0 gb z g fr pg f e (ii g fr pg e)) := by
 refine am func213 ntmps213 ?_
 refine ai (fun m => ?_) fun m => ?_
 refine ac ?_
 refine ⟨_, ⟨_, rfl, rfl, uS W0 gb z g fr pg (o' := (pq g fr pg e, fr)) call291 ?_ fun R => a4k W0 R gb z g N fr pg j h a l e b⟩, IO⟩
 rw [ii, Qad (by omega)]
 refine ai (fun n => ?_) fun n => ?_
 refine ac ?_
 refine ⟨_, ⟨_, rfl, rfl, uS W0 gb z g fr pg (o' := (pr g fr pg e, wE g fr pg e.addr e.width e.val)) call292 ?_ fun R => a4l W0 R gb z g N fr pg j h a l e b⟩, IO⟩
 rw [ii, Qaa (by omega), Qad (by omega)]
 refine ai (fun o => ?_) fun o => ?_
 refine ac ?_
 refine ⟨_, ⟨_, rfl, rfl, uS W0 gb z g fr pg (o' := (fI g e.cause e.tval, fr)) call293 ?_ fun R => a4m W0 R gb z g N fr pg h a e b⟩, IO⟩
 rw [ii, Qaa (by omega), Qaa (by omega), Qad (by omega)]
 refine ai (fun p => ?_) fun p => ?_
 refine ac ?_
 refine ⟨_, ⟨_, rfl, rfl, uS W0 gb z g fr pg (o' := ((0, mV g e.pc), fr)) call294 ?_ fun R => a4n W0 R gb z g fr pg h.c.r.len e⟩, IO⟩
 rw [ii, Qaa (by omega), Qaa (by omega), Qaa (by omega), Qad (by omega)]
 refine ai (fun d => ?_) fun d => ?_
 refine ac ?_
 refine ⟨_, ⟨_, rfl, rfl, uS W0 gb z g fr pg (o' := ((4, ov (mV (gY g) e.pc) 4 0 0 g.c.pc), fr)) call295 ?_ fun R => a4o W0 R gb z g fr pg (h.k (by omega)) h.c.r.len e⟩, IO⟩
 rw [ii, Qaa (by omega), Qaa (by omega), Qaa (by omega), Qaa (by omega), Qad (by omega)]
 refine ai (fun i => ?_) fun i => ?_
 refine ac ?_
 refine ⟨_, ⟨_, rfl, rfl, uS W0 gb z g fr pg (o' := ((3, g), fr)) call296 ?_ fun R => a4p W0 _ gb e⟩, IO⟩
 rw [ii, Qaa (by omega), Qaa (by omega), Qaa (by omega), Qaa (by omega), Qaa (by omega), Qad (by omega)]
 refine ac ?_
 refine ⟨_, ⟨_, rfl, rfl, uS W0 gb z g fr pg (o' := ((0, g), fr)) call297 ?_ fun R => a4q W0 _ gb e⟩, IO⟩
 rw [ii, Qaa (by omega), Qaa (by omega), Qaa (by omega), Qaa (by omega), Qaa (by omega), Qaa (by omega)]
theorem a4r (D : ∀ A, bE (aQ W0 A) 1 0 jc) (E : ∀ A, bE (aQ W0 A) 0 0 kX) (h : GOk z g N) (P : N ≤ 680) (G : cz fr) : sQ W0 141 [pV gb] (gM gb z g fr pg R) (iQ (jv z.i g fr pg).1.1) (gM gb z (jv z.i g fr pg).1.2 (jv z.i g fr pg).2 pg R) := by
 obtain ⟨F, v⟩ : ∃ F, pp g fr pg g.c.pc 4 0 = F := ⟨_, rfl⟩
 obtain ⟨w, y⟩ : ∃ w, pn g fr pg g.c.pc 4 0 = w := ⟨_, rfl⟩
 have I : w < 4294967296 := by grind [uR]
 have t := h.tick
 have K := h.bud
 obtain ⟨L, j⟩ : ∃ b, gG (fq w) = b := ⟨_, rfl⟩
 have B := DG w
 obtain ⟨o, C⟩ : ∃ o, jX z.i (dS g.clock) (fq w) g.c = o := ⟨_, rfl⟩
 have n : EfOk o.1 ∧ CpOk o.2 := by rw [← C]; exact DO h.c B.2.1 h.i
 have u : GOk z (jK (dG g) o.2) (N + 1) := ⟨n.2, t.i, t.clk, t.bud, t.ln, t.tn⟩
 have p : ∀ (a b : Nat), (fI (dG g) a b).2.bud = g.bud + 3 := fun a b => by unfold fI; split <;> rfl
 rw [jv, v, y, j, C]
 refine am func141 ntmps141 ?_
 refine ah (ap sx (qP z.x.r g.c.rl g.c.pc h.c.r.len)) ?_
 refine bz [gb] 18 fun e => ?_
 refine aj 0 10 e ?_
 refine aj 11 1 e ?_
 refine bY 10 (ap CC (yz z.x.c h.c.cs)) fun e => ?_
 refine bQ 12 (cv call207 (LD W0 _ z.x.m z.pv z.ps z.pm g.bud fr pg D (by omega) (i6 g.c.cs) (gH g.c.cs) (!dR g.c.cs) g.c.pc h.c.pc 4 0)) ?_; clear e
 rintro _ l ⟨rfl, d⟩
 obtain rfl := d.symm
 rw [show lL fr pg (i6 g.c.cs) (gH g.c.cs) (!dR g.c.cs) g.c.pc 4 0 = F from v, show pj fr pg (i6 g.c.cs) (gH g.c.cs) (!dR g.c.cs) g.c.pc 4 0 = w from y]
 refine ⟨aT, fun e => ?_⟩
 refine aj 13 5 e ?_
 refine aJ ?_
 refine ai (fun H => ?_) fun H => ?_
 refine aF rfl (iz Of rfl (Fp 3 F)) ?_
 rintro _ l ⟨rfl, d⟩
 obtain rfl := d.symm
 refine ae rfl (aM rfl) ?_
 refine aF rfl (lW CE rfl (yM W0 _ gb z (dG g) (N + 1) t (by omega) (qZ 3 F) g.c.pc (dJ _) h.c.pc)) ?_
 rintro _ l ⟨rfl, d⟩
 obtain rfl := d.symm
 refine ae rfl (bC rfl) (aL (aH (dE (iP (ac ?_)))))
 rw [Qad H]
 unfold gM
 rw [p]
 exact ao
 rw [Qaa H]
 refine ah (aB call211 (a2F E w I)) ?_
 rw [j]
 refine bu fun M => ?_
 refine ar aA ?_
 refine aC rfl (fun O => ?_) fun O => ?_
 refine aO ?_
 refine aY (ae rfl (aM rfl) (ae rfl (aM rfl) ?_))
 refine aF rfl (lW CE rfl (yM W0 _ gb z (dG g) (N + 1) t (by omega) 1 w (by decide) I)) ?_
 rintro _ l ⟨rfl, d⟩
 obtain rfl := d.symm
 refine ae rfl (bC rfl) (aL (aH (dE (iP (ac ?_)))))
 rw [Qad (by grind)]
 unfold gM
 rw [p]
 exact ao
 refine aw ?_
 obtain rfl : L = true := by grind
 rw [Qaa (by decide)]
 refine bz [gb, M] 20 fun e => ?_
 refine aj 0 12 e ?_
 refine eD (is := [12, 17]) (by kernel_rfl) rfl ⟨?_, ?_, trivial⟩
 refine cX (ap GM (Bz W0 _ gb z g (h.k (by omega)))) ?_; clear e
 rintro _ l ⟨rfl, d⟩
 obtain rfl := d.symm
 refine ⟨aT, fun e => ?_⟩
 refine eD (is := [13, 17]) (by kernel_rfl) rfl ⟨?_, ?_, trivial⟩
 refine cX (cv Og (Fa W0 _ (fq w) z.x.r z.x.c ((dS g.clock : Nat) : Int) g.c z.i E h.c j h.i (by omega))) ?_; clear e
 rintro _ l ⟨rfl, d⟩
 obtain rfl := d.symm
 rw [Qaf, C]
 refine ⟨aT, fun e => ?_⟩
 refine aj 14 3 e ?_
 refine bQ 17 (di l7) ?_; clear e
 rintro _ _ ⟨J, rfl, rfl⟩
 refine ⟨aT, fun e => ?_⟩
 refine cm 18 aA fun e => ?_
 refine aj 19 1 e ?_
 refine aJ ?_
 refine ai (fun q => ?_) fun q => ?_
 exact absurd rfl q
 refine aF rfl (aB Oh (Fq W0 _ gb z (jK (dG g) o.2) (N + 1) fr pg D u (by omega) G o.1 n.1)) ?_
 rintro _ l ⟨f, rfl, d, s⟩
 obtain rfl := d.symm
 refine aw ?_
 refine ah (kj xn (jm (us := [pV gb]) (cs := []) rfl s.1 rfl (s.2 _))) ?_
 exact ac ao
 skip
 refine cX (di l7) ?_; clear e
 rintro _ _ ⟨J, rfl, rfl⟩
 refine ⟨aT, fun e => ?_⟩
 refine bQ 13 (cv Og (Fa W0 _ (fq w) z.x.r z.x.c ((dS g.clock : Nat) : Int) g.c z.i E h.c j h.i (by omega))) ?_; clear e
 rintro _ l ⟨rfl, d⟩
 obtain rfl := d.symm
 rw [Qaf, C]
 refine ⟨aT, fun e => ?_⟩
 refine aj 14 3 e ?_
 refine cm 18 aA fun e => ?_
 refine aj 19 1 e ?_
 refine aJ ?_
 refine ai (fun q => ?_) fun q => ?_
 exact absurd rfl q
 refine aF rfl (aB Oh (Fq W0 _ gb z (jK (dG g) o.2) (N + 1) fr pg D u (by omega) G o.1 n.1)) ?_
 rintro _ l ⟨f, rfl, d, s⟩
 obtain rfl := d.symm
 refine aw ?_
 refine ah (kj xn (jm (us := [pV gb]) (cs := []) rfl s.1 rfl (s.2 _))) ?_
 exact ac ao
 skip
 refine cX (di l7) ?_; clear e
 rintro _ _ ⟨J, rfl, rfl⟩
 refine ⟨aT, fun e => ?_⟩
 refine bY 12 (ap GM (Bz W0 _ gb z g (h.k (by omega)))) fun e => ?_
 refine bQ 13 (cv Og (Fa W0 _ (fq w) z.x.r z.x.c ((dS g.clock : Nat) : Int) g.c z.i E h.c j h.i (by omega))) ?_; clear e
 rintro _ l ⟨rfl, d⟩
 obtain rfl := d.symm
 rw [Qaf, C]
 refine ⟨aT, fun e => ?_⟩
 refine aj 14 3 e ?_
 refine cm 18 aA fun e => ?_
 refine aj 19 1 e ?_
 refine aJ ?_
 refine ai (fun q => ?_) fun q => ?_
 exact absurd rfl q
 refine aF rfl (aB Oh (Fq W0 _ gb z (jK (dG g) o.2) (N + 1) fr pg D u (by omega) G o.1 n.1)) ?_
 rintro _ l ⟨f, rfl, d, s⟩
 obtain rfl := d.symm
 refine aw ?_
 refine ah (kj xn (jm (us := [pV gb]) (cs := []) rfl s.1 rfl (s.2 _))) ?_
 exact ac ao
end
abbrev gI (gb : Nat) (z : Gz) (g : Gu) (R : List HP) : List HP := pt gb (dA z g) :: pt z.x.r (dF g.c.rl g.c.pc) :: pt z.x.c (eg g.c.cs z.i) :: gB z.tr g.es :: mQ z.x.v (g.ls, g.ln) :: mR z.x.t g.tm :: R
abbrev gS (gb : Nat) (z : Gz) (g : Gu) (fr : List aD) (pg : List Pl) (R : List HP) : List HP := pt gb (dA z g) :: pt z.x.r (dF g.c.rl g.c.pc) :: pt z.x.c (eg g.c.cs z.i) :: gB z.tr g.es :: mQ z.x.v (g.ls, g.ln) :: mR z.x.t g.tm :: gC z.x.m ⟨z.pv, z.ps, z.pm, g.bud, fr, pg⟩ :: bD z.ps fr :: R
theorem CpOk.enter {g} (h : CpOk g.c) {cause tval} (a : cause < 4294967296) (b : tval < 4294967296) : CpOk (uQ g cause tval).c := ⟨h.r, h.cs.at_ 1, h.cs.enter h.pc a b⟩
theorem Fs ls n k : k8 ls n k ≤ n + 1 := by unfold k8; split <;> omega
theorem GOk.fired {z g N} (h : GOk z g N) : GOk z (iM g) (N + 1) := by
 refine ⟨h.c, h.i, by have := h.clk; show g.clock ≤ N + 1; omega, by have := h.bud; show g.bud ≤ _; omega, ?_, by have := h.tn; show g.tm.now ≤ _; omega⟩
 have := h.ln
 have := Fs g.ls g.ln 7
 show (if _ then g.ln else k8 g.ls g.ln 7) ≤ _
 split <;> omega
theorem GOk.le {z g N M} (h : GOk z g N) (a : N ≤ M) : GOk z g M := ⟨h.c, h.i, by have := h.clk; omega, by have := h.bud; omega, by have := h.ln; omega, by have := h.tn; omega⟩
theorem GOk.int {z g N} (h : GOk z g N) : GOk z (fJ g).2 (N + 1) := by
 unfold fJ
 split
 cases q : jJ g.ls with
 | none => exact h.le (Qcw N)
 | some n =>
  have := (yG q).1
  exact ⟨h.c.enter (by omega) (by decide), h.i, by have := h.clk; show g.clock ≤ _; omega, by have := h.bud; show g.bud ≤ _; omega, by have := h.ln; show g.ln ≤ _; omega, by have := h.tn; show g.tm.now ≤ _; omega⟩
 exact h.le (Qcw N)
theorem GOk.clock {z g N} (h : GOk z g N) : GOk z (j0 g) (N + 1) := ⟨h.c, h.i, by have := h.clk; show g.clock + 1 ≤ _; omega, by have := h.bud; show g.bud ≤ _; omega, by have := h.ln; show g.ln ≤ _; omega, by have := h.tn; show g.tm.now ≤ _; omega⟩
theorem yN g a b : (fI g a b).2.ls = g.ls ∧ (fI g a b).2.ln = g.ln ∧ (fI g a b).2.tm = g.tm := by
 grind [fI]
theorem Ft i g fr pg : (jv i g fr pg).1.2.ls = g.ls ∧ (jv i g fr pg).1.2.ln = g.ln ∧ (jv i g fr pg).1.2.tm = g.tm := by
 unfold jv
 split; · exact yN _ _ _
 split; · exact yN _ _ _
 unfold ii
 split
 grind [pq, yN]
 split
 grind [pr, yN]
 split; · exact yN _ _ _
 split; · exact ⟨rfl, rfl, rfl⟩
 split; · exact ⟨rfl, rfl, rfl⟩
 split; · exact ⟨rfl, rfl, rfl⟩
 exact ⟨rfl, rfl, rfl⟩
section
variable (W0 : World) (R : List HP) (gb : Nat) (z : Gz) (g : Gu) (N : Nat) (fr : List aD) (pg : List Pl)
theorem a4s (h : GOk z g N) (W : N ≤ 690) : sQ W0 140 [pV gb] (gI gb z g R) (.bool (fJ (iM g)).1) (gI gb z (fJ (iM g)).2 R) := by
 have L := h.tn
 have M := h.ln
 obtain ⟨X, l⟩ : ∃ b, od g.c.cs = b := ⟨_, rfl⟩
 obtain ⟨K, y⟩ : ∃ K, mT g.tm ((dS g.clock : Nat) : Int) = K := ⟨_, rfl⟩
 obtain ⟨q, d⟩ : ∃ q, iM g = q := ⟨_, rfl⟩
 have f : q.c = g.c := by rw [← d]
 have A : mg z q = mg z g := by rw [← d]
 have m : q.es = g.es := by rw [← d]
 have o : q.clock = g.clock := by rw [← d]
 rw [d, fJ, f, l]
 refine jz 5 func140 ntmps140 ?_
 refine cy (fun _ : Unit => True) (fun _ => [(0, pV gb)]) (fun _ => pt gb (dA z q) :: pt z.x.r (dF q.c.rl q.c.pc) :: pt z.x.c (eg q.c.cs z.i) :: gB z.tr q.es :: mQ z.x.v (q.ls, q.ln) :: mR z.x.t q.tm :: R) ?_ ?_
 refine au 1 ?_
 refine bz [gb] 10 fun p => ?_
 refine aj 0 6 p ?_
 refine bY 6 (ap GM (Bz W0 _ gb z g (h.k (by omega)))) fun p => ?_
 refine bQ 7 (ap call203 (a4f z.x.t g.tm ((dS g.clock : Nat) : Int) (by omega))) ?_; clear p
 rintro _ Y ⟨Z, fc, rfl, B⟩
 obtain rfl := B.symm
 rw [y]
 refine ⟨aT, fun p => ?_⟩
 refine aj 8 2 p ?_
 refine aJ ?_
 refine ai (fun O => ?_) fun O => ?_
 refine ah (ap call42 (LR z.x.v g.ls g.ln 7 (by omega))) ?_
 rw [Qad (show gx 7 = true by decide), Qad (show gx 7 = true by decide), Qad (show gx 7 = true by decide), show (7 : Int).toNat = 7 from rfl]
 refine bq () ?_ (he := ?_)
 trivial
 rw [← d]
 show Ent _ (pt gb (dA z g) :: pt z.x.r (dF g.c.rl g.c.pc) :: pt z.x.c (eg g.c.cs z.i) :: gB z.tr g.es :: mQ z.x.v (if mT g.tm ((dS g.clock : Nat) : Int) = 0 then g.ls else me g.ls g.ln 7, if mT g.tm ((dS g.clock : Nat) : Int) = 0 then g.ln else k8 g.ls g.ln 7) :: mR z.x.t (tG g.tm ((dS g.clock : Nat) : Int)) :: R)
 rw [y, Qaa (by omega), Qaa (by omega)]
 exact IO
 refine bq () ?_ (he := ?_)
 trivial
 rw [← d]
 show Ent _ (pt gb (dA z g) :: pt z.x.r (dF g.c.rl g.c.pc) :: pt z.x.c (eg g.c.cs z.i) :: gB z.tr g.es :: mQ z.x.v (if mT g.tm ((dS g.clock : Nat) : Int) = 0 then g.ls else me g.ls g.ln 7, if mT g.tm ((dS g.clock : Nat) : Int) = 0 then g.ln else k8 g.ls g.ln 7) :: mR z.x.t (tG g.tm ((dS g.clock : Nat) : Int)) :: R)
 rw [y, Qad (by omega), Qad (by omega)]
 exact IO
 intro _ _
 clear d
 obtain ⟨qc, P, Q, C, a, s, D, S, E, J, T, u⟩ := q
 dsimp only at f A m o ⊢
 subst f; subst m; subst o
 have U := h.c
 refine aw ?_
 refine ah (ap call204 (a2e z.x.c h.c.cs)) ?_
 rw [l]
 refine ai (fun F => ?_) fun F => ?_
 refine ac ?_
 rw [Qaa (by simpa using F)]
 exact ao
 rw [Qad (by simpa using F)]
 refine ah (ap call205 (a3Q z.x.v a s)) ?_
 obtain ⟨w, j⟩ : ∃ b, jJ a = b := ⟨_, rfl⟩
 rw [j]
 have G : w = none → mf a = a := fun e => by unfold mf; rw [j, e]
 have H : ∀ n, w = some n → n < 8 := fun n e => (yG (j.trans e)).1
 refine ai (fun I => ?_) fun I => ?_
 refine ac ?_
 cases w with
 | some n => exact absurd rfl I
 | none =>
  rw [G rfl]
  exact ao
 obtain ⟨n, rfl⟩ : ∃ n, w = some n := by
  cases w with
  | some n => exact ⟨n, rfl⟩
  | none => simp at I
 have V := H n rfl
 rw [Option.getD_some]
 refine ah (ap sx (qP z.x.r g.c.rl g.c.pc h.c.r.len)) ?_
 refine aa (bG (cZ (by omega))) ?_
 refine aa (dQ (256 + n)) ?_
 refine ah (ap call206 (Lb z.x.c g.c.pc (256 + n) 0 h.c.cs h.c.pc (by omega) (by decide))) ?_
 refine ah (ap Cx (y9 z.x.r g.c.rl g.c.pc (d9 g.c.cs 1) h.c.r.len)) ?_
 refine ah (cN vh (tH W0 _ gb z ⟨⟨g.c.rl, d9 g.c.cs 1, m4 g.c.cs g.c.pc (256 + n) 0⟩, P, Q, C, mf a, s, D, S, E, g.clock, g.es, u⟩ (h.k (by omega)) h.c.r.len 3 (256 + n) 0 g.c.pc)) ?_
 exact ac ao
theorem BB (k : ∀ A, bE (aQ W0 A) 1 0 jc) (l : ∀ A, bE (aQ W0 A) 0 0 kX) (h : GOk z g N) (o : N ≤ 600) (m : cz fr) : sQ W0 61 [pV gb] (gS gb z g fr pg R) (iQ (eS z.i g fr pg).1.1) (gS gb z (eS z.i g fr pg).1.2 (eS z.i g fr pg).2 pg R) := by
 have n := h.clk
 have f := h.clock
 have j := (f.fired).int
 obtain ⟨q, c⟩ : ∃ q, fJ (iM (j0 g)) = q := ⟨_, rfl⟩
 have b : q.2.bud = g.bud := by
  grind [fJ]
 rw [c] at j
 rw [eS, c]
 refine am func61 ntmps61 ?_
 refine ah (ap oG (nJ W0 _ gb z g)) ?_
 refine aa (dQ (g.clock + 1)) ?_
 refine ar (iU (by exact rfl : (mg z g).set 27 (iQ ((g.clock + 1 : Nat) : Int)) = mg z (j0 g))) ?_
 refine ai (fun d => ?_) fun d => ?_
 refine ac ?_
 rw [Qad d]
 exact ao
 rw [Qaa d]
 refine ah (vF call140 rfl (a4s W0 _ gb z (j0 g) (N + 1) f (by omega))) ?_
 rw [c]
 refine ai (fun e => ?_) fun e => ?_
 refine ac ?_
 rw [Qad e]
 unfold gS
 rw [← b]
 exact ao
 rw [Qaa e, ← b]
 refine ah (vF call141 rfl (a4r W0 _ gb z q.2 (N + 1 + 1 + 1) fr pg k l j (by omega) m)) ?_
 have a := Ft z.i q.2 fr pg
 refine ac ?_
 refine ⟨_, ⟨rfl, rfl⟩, ?_⟩
 unfold gS
 rw [a.1, a.2.1, a.2.2]
 exact IO
end
theorem a4t {po Ls} {f w : Nat} (h : LsOk po Ls) (a : f < po.length) (c : d6 po f = ((w : Int), true)) : LsOk (po.set f (-1, false)) Ls := by
 refine ⟨h.len, fun u b => ?_⟩
 rw [E0 a (by grind) (by grind)]
 exact h.row u b
theorem Mb pb ps po fr (f w : Nat) (hf : f < po.length) (hff : f < fr.length) (hw : w < 16) (hP : PoOk po) (ha : d6 po f = ((w : Int), true)) : sQ W0 124 [pV pb, .int .i64 f] (cR pb (ps, po) :: bD ps fr :: R) (.int .i64 0) (cR pb (ps, po.set f (w, false)) :: bD ps (fr.set f cC) :: R) := by
 refine jz 10 func124 ntmps124 ?_
 refine eh 3 (ir zv rfl (w5 pb ps po (by omega))) ?_
 refine aC rfl (fun j => ?_) fun j => ?_
 exact absurd j (by decide)
 refine au 4 ?_
 refine eh 4 (ir NQ rfl (E9 pb ps po (f : Int))) ?_
 refine aC rfl (fun k => ?_) fun k => ?_
 exact absurd k (by rw [show eu po.length (f : Int) = true from by simp [eu]; omega]; decide)
 refine aO ?_
 refine w3 (pb := pb) fun a c d h p q => ?_
 refine fV (r := osl 204 2) (b := .slice a po.length c) (ku (fun l i => by have := Qah List.length i; rw [qG] at this; simp at this; omega) fun g n s m l i t v u => ?_)
 cases l
 have e := E8 po m f 1 hf (by decide)
 rw [ha] at e
 refine au 6 ?_
 refine ae rfl (jQ zl C7 rfl rfl rfl hf (by first | exact Qac _ | rfl)) ?_
 refine ae rfl (D2 G5 iN) ?_
 refine jS 4 (co nP rfl (aI e)) ?_
 refine aC rfl (fun o => ?_) fun o => ?_
 simp at o
 refine au 4 ?_
 refine eK (B := pt pb (ag (fY ps (.slice (some ⟨g, 0, none⟩) po.length c) d) 202) :: osl 204 2 (.slice (some ⟨g, 0, none⟩) po.length c) (po.flatMap fw) :: kH 2 (cq ((d.zip h).map ez)) :: bD ps fr :: R) ?_ ?_
 refine Ent.trans (B := pt g (ag (po.flatMap fw ++ m) 204) :: pt pb (ag (fY ps (.slice (some ⟨g, 0, none⟩) po.length c) d) 202) :: kH 2 (cq ((d.zip h).map ez)) :: bD ps fr :: R) inferInstance ?_
 refine (fk (g := g) (E := 204) (sz := 2) (B := pt pb (ag (fY ps (.slice (some ⟨g, 0, none⟩) po.length c) d) 202) :: kH 2 (cq ((d.zip h).map ez)) :: bD ps fr :: R) i t (qG po) u).trans inferInstance
 refine au 3 ?_
 refine eh 4 (lW call99 rfl (IY pb ps po fr f w true hf hff hw hP ha (some ⟨g, 0, none⟩) c d h p (a4t q hf ha))) ?_
 exact ac ao
theorem a4u pb ps po w (n : 0 < po.length) (f : w < 16) (p : PoOk po) (o : bS po w = []) : sQ W0 117 [pV pb, iQ w] (cR pb (ps, po) :: R) (.tuple #[iQ 0, iQ 2]) (cR pb (ps, po) :: R) := by
 have g : pO w = true := by grind [pO]
 refine am func117 ntmps117 ?_
 refine ah (ap zv (w5 pb ps po n)) ?_
 refine ah (aB Gt (AI w)) ?_
 refine aC rfl (fun j => ?_) fun j => ?_
 exact absurd j (by simp [g])
 refine au 1 ?_
 refine w3 (pb := pb) fun a c d b k h => ?_
 have e := h.row w f
 refine eK (B := j9 w pb (b.getD w [], fY ps (.slice a po.length c) d) :: kH 3 (cq (((d.zip b).map ez).eraseIdx w)) :: osl 204 2 (.slice a po.length c) (po.flatMap fw) :: R) ?_ ?_
 exact (Ent.cons (Ent.ofPerm (List.Perm.swap _ _ _))).trans (AD f k h.len)
 refine aw ?_
 refine aa (eG f) ?_
 refine ah (ap Gr (AH pb w (b.getD w []) (fY ps (.slice a po.length c) d))) ?_
 refine ai (fun l => ?_) fun l => ?_
 refine ax ?_
 refine ⟨_, ⟨rfl, rfl⟩, ?_⟩
 have m : b.set w (b.getD w []) = b := by
  apply QaP (by simp)
  intro i q r
  rw [List.getElem_set]
  split
  grind
  rfl
 exact Ent.trans (B := j9 w pb (b.getD w [], fY ps (.slice a po.length c) d) :: osl 204 2 (.slice a po.length c) (po.flatMap fw) :: kH 3 (cq (((d.zip b).map ez).eraseIdx w)) :: R) inferInstance (AE f k rfl rfl h.len (by grind))
 exact absurd (by rw [e.1.length_eq, o]; rfl) l
structure Mm where
  fr : List aD
  pg : List Pl
  po : Po
structure GMem (i : Nat) (x : Mm) : Prop where
  fr : cz x.fr
  po : PoOk x.po
  pg : Pgs x.pg
  len : x.po.length = x.fr.length
  pl : PlOk x.fr.length x.pg
  own : ∀ t : Nat, t < 8 → aN x.pg t = true → d6 x.po (bH x.pg t).1.toNat = ((i : Int), true)
  all : ∀ f, f < x.po.length → d6 x.po f = ((i : Int), true) → ∃ t : Nat, t < 8 ∧ aN x.pg t = true ∧ (bH x.pg t).1 = (f : Int)
  far : ∀ t : Nat, 8 ≤ t → aN x.pg t = true → (d6 x.po (bH x.pg t).1.toNat).1 ≠ (i : Int)
  nul : ∀ f, f < x.po.length → d6 x.po f = ((i : Int), false) → x.fr.getD f [] = cC
theorem MOk.frame {fr fr' pg d L T} (h : MOk fr pg d L T) (b : fr'.length = fr.length) (c : cz fr') (e : ∀ t : Nat, t < 8 → aN pg t = true → fr'.getD (bH pg t).1.toNat [] = fr.getD (bH pg t).1.toNat []) : MOk fr' pg d L T := by
 refine ⟨c, h.dl, h.P, by rw [b]; exact h.pl, h.ti, fun x f => ?_⟩
 have a := h.ln x f
 refine a.move a.at_.1 rfl fun t g i => ⟨i, fun q => EW b rfl rfl fun _ o m => ?_⟩
 have j := a.own
 obtain ⟨k, rfl⟩ : ∃ k : Nat, t = (k : Int) := ⟨t.toNat, by rcases g with rfl | rfl <;> omega⟩
 have l : k < 8 := by omega
 have := e k l q
 unfold kx
 rw [b, this]
theorem yO {pg} (h : Pgs pg) {t} (b : aN pg t = true) : 0 ≤ (bH pg t).1 ∧ (bH pg t).1 < 32 := by
 have a := b
 simp only [aN, Qan, Qak] at a
 obtain ⟨i, rfl, c⟩ := kz a.1
 rw [Qaf] at a
 rw [bH, Qad b, Qaf]
 have := h.ok i c a.2
 simp only [ll, Qak] at this
 omega
theorem GMem.at_ {i x} (h : GMem i x) {t} (a : aN x.pg t = true) : ∃ f : Nat, (bH x.pg t).1 = f ∧ f < x.fr.length ∧ f < x.po.length := by
 have b := yO h.pg a
 have c := h.pl.rng t a
 exact ⟨(bH x.pg t).1.toNat, by omega, by omega, by rw [h.len]; omega⟩
def mW (i n : Nat) (x : Mm) : Mm := ⟨x.fr.set (bH x.pg n).1.toNat cC, fe x.pg n, x.po.set (bH x.pg n).1.toNat ((i : Int), false)⟩
theorem Mc {fr} (h : cz fr) f : cz (fr.set f cC) := fun y a => by
 rcases Qcn a with q | q
 exact h y q
 rw [q]; exact I3
theorem yP {pg} {n : Nat} (d : pg.length = 12) {t} : aN (fe pg n) t = (aN pg t && decide (t ≠ n)) := by
 unfold fe
 by_cases a : aN pg n = true
 rw [Qad a, Qaf]
 by_cases e : t = (n : Int)
 subst e
 rw [Qal (by simp), QcT]
 unfold aN
 rw [Qaf]
 have b := KO a
 obtain ⟨j, f, c⟩ := kz b
 have : ew (pg.set n (0, 0)) n = (0, 0) := by grind [ew]
 rw [this]; simp
 grind [gr]
 grind
theorem BC {pg} {n : Nat} {t} (e : t ≠ (n : Int)) : bH (fe pg n) t = bH pg t := by
 unfold fe
 split
 rw [Qaf]; exact (gr e).2
 rfl
theorem Fu {α : Type} {l : List α} {n k x d} (h : k ≠ n) : (l.set n x).getD k d = l.getD k d := by
 grind
theorem a9z {α : Type} {l : List α} {n x d} (h : n < l.length) : (l.set n x).getD n d = x := by
 grind
theorem GMem.give {i n : Nat} {x} (h : GMem i x) (hn : n < 8) (ht : aN x.pg n = true) (hi : i < 16) : GMem i (mW i n x) := by
 obtain ⟨f, hf, hff, hfp⟩ := h.at_ ht
 have ho := h.own n hn ht
 rw [hf, Qaf] at ho
 have hg : mW i n x = ⟨x.fr.set f cC, fe x.pg n, x.po.set f ((i : Int), false)⟩ := by grind [mW]
 rw [hg]
 have ne : ∀ t : Nat, aN (fe x.pg n) t = true → aN x.pg t = true ∧ t ≠ n ∧ bH (fe x.pg n) t = bH x.pg t ∧ (bH x.pg t).1.toNat ≠ f := fun t q => by
  rw [yP h.pg.len, Qan, Qaj] at q
  have e : (t : Int) ≠ (n : Int) := q.2
  refine ⟨q.1, fun e2 => e (by rw [e2]), BC e, fun e2 => e ?_⟩
  have h1 := yO h.pg q.1
  exact h.pl.inj _ _ q.1 ht (by omega)
 refine ⟨Mc h.fr f, h.po.set hfp (by simp) (by simp; omega), KP h.pg, by rw [Qap, Qap]; exact h.len, ?_, fun t h8 q => ?_, fun k hk q => ?_, fun t h8 q => ?_, fun k hk q => ?_⟩
 rw [Qap]
 exact LB (n := n) h.pg.len h.pl
 obtain ⟨q1, q2, q3, q4⟩ := ne t q
 dsimp only at q ⊢
 rw [q3, jY hfp, Qaa q4]
 exact h.own t h8 q1
 dsimp only at hk q ⊢
 rw [Qap] at hk
 rw [jY hfp] at q
 split at q
 grind
 rename_i e
 obtain ⟨t, h8, h1, h2⟩ := h.all k hk q
 have hne : t ≠ n := fun e2 => e (by grind)
 refine ⟨t, h8, ?_, ?_⟩
 rw [yP h.pg.len, h1, Qbe, Qaj]
 intro e2; exact hne (by omega)
 grind [BC]
 obtain ⟨q1, q2, q3, q4⟩ := ne t q
 dsimp only at q ⊢
 rw [q3, jY hfp, Qaa q4]
 exact h.far t h8 q1
 dsimp only at hk q ⊢
 rw [Qap] at hk
 rw [jY hfp] at q
 by_cases e : k = f
 grind
 rw [Qaa e] at q
 rw [Fu e]
 exact h.nul k hk q
def ka (i n : Nat) (x : Mm) : Mm := if aN x.pg n then mW i n x else x
def cr (i : Nat) : Nat → Mm → Mm
 | 0, x => x
 | n + 1, x => ka i n (cr i n x)
theorem GMem.strip {i x} (h : GMem i x) (a : i < 16) : ∀ n, n ≤ 8 → GMem i (cr i n x)
 | 0, _ => h
 | n + 1, c => by
  have b := h.strip a n (by omega)
  rw [cr, ka]
  split
  rename_i q; exact b.give (by omega) q a
  exact b
theorem a4v {pg} {n : Nat} (h : aN pg n = true) : qU pg n = 0 := by rw [qU, Qad (KO h), Qad h]
theorem a4w pb ps pm i x (h : GMem i x) (hi : i < 16) : sP W0 75 [pV pb, pV pm] (cR pb (ps, x.po) :: bD ps x.fr :: pt pm (bI x.pg) :: R) (fun v B => ∃ k : Nat, v = iQ k ∧ B = cR pb (ps, (cr i 8 x).po) :: bD ps (cr i 8 x).fr :: pt pm (bI (cr i 8 x).pg) :: R) := by
 refine am func75 ntmps75 ?_
 refine cW (fun X : Nat × Nat => X.1 ≤ 8 ∧ X.2 ≤ X.1) (fun X => [(0, pV pb), (1, pV pm), (5, iQ X.2), (9, iQ X.1)]) (fun X => cR pb (ps, (cr i X.1 x).po) :: bD ps (cr i X.1 x).fr :: pt pm (bI (cr i X.1 x).pg) :: R) (fun X => 8 - X.1) (0, 0) ?_ ?_
 omega
 intro ⟨n, m⟩ ⟨hn, hm⟩
 dsimp only at hn hm ⊢
 have hg := h.strip hi n hn
 have hs : cr i (n + 1) x = ka i n (cr i n x) := rfl
 obtain ⟨y, hy⟩ : ∃ y, cr i n x = y := ⟨_, rfl⟩
 rw [hy] at hg hs ⊢
 refine aw ?_
 refine aC rfl (fun c3 => ?_) fun c3 => ?_
 refine au 2 ?_
 refine cy (fun X : Nat => n < 8 ∧ X ≤ n + 1) (fun X => [(0, pV pb), (1, pV pm), (5, iQ X), (9, iQ n)]) (fun X => cR pb (ps, (ka i n y).po) :: bD ps (ka i n y).fr :: pt pm (bI (ka i n y).pg) :: R) ?_ ?_
 refine au 11 ?_
 refine ah (ap nS (sZ pm y.pg hg.pg n)) ?_
 refine bu fun b1 => ?_
 refine ar aA ?_
 refine cn (fun g6_3 => ?_) fun g6_3 => ?_
 have hth : aN y.pg n = false := by grind
 have e1 : ka i n y = y := by grind [ka]
 refine bq m ?_ (he := ?_)
 omega
 rw [e1]
 exact IO
 have hth : aN y.pg n = true := by grind
 obtain ⟨f, hf, hff, hfp⟩ := hg.at_ hth
 have ho := hg.own n (by omega) hth
 rw [hf, Qaf] at ho
 have e1 : ka i n y = ⟨y.fr.set f cC, fe y.pg n, y.po.set f ((i : Int), false)⟩ := by
  grind [ka, mW]
 refine ah (ap Gl (KQ pm y.pg hg.pg n)) ?_
 refine aC rfl (fun c6 => ?_) fun c6 => ?_
 exact absurd c6 (by rw [a4v hth]; decide)
 refine au 6 ?_
 refine ae rfl (aE (aI (v := iQ f) (by grind))) ?_
 refine ah (cv call124 (Mb pb ps y.po y.fr f i hfp hff hi hg.po ho)) ?_
 refine aa (dQ (m + 1)) ?_
 refine bq (m + 1) ?_ (he := ?_)
 omega
 rw [e1]
 exact IO
 intro X ⟨hn8, hX⟩
 refine aw ?_
 refine aa bW ?_
 refine bR (n + 1, X) ?_ (he := ?_)
 omega
 show Ent _ (cR pb (ps, (cr i (n + 1) x).po) :: bD ps (cr i (n + 1) x).fr :: pt pm (bI (cr i (n + 1) x).pg) :: R)
 rw [hs]
 exact IO
 refine aw ?_
 refine ac ?_
 obtain rfl : n = 8 := by omega
 rw [hy]
 exact ⟨_, ⟨m, rfl, rfl⟩, IO⟩
end
end Go.Proofs.YtbhimdcapbflkaaGreatDoor
