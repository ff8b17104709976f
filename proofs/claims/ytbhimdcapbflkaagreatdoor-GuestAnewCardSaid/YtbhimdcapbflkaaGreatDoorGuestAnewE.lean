/-
  Part 5 of the proof of GuestAnew: rules, and walks of functions. Conditions: none.
-/
import Derived.Test.YtbhimdcapbflkaaGreatDoorGuestAnewD
namespace Go.Proofs.YtbhimdcapbflkaaGreatDoor
open Go.Proofs.Tryz
set_option linter.unusedSimpArgs false
set_option linter.unusedVariables false
set_option maxRecDepth 20000
set_option linter.defProp false
set_option synthInstance.maxSize 8192
set_option synthInstance.maxHeartbeats 2000000
variable {W0 : World} {R : List HP}
section
open Go.RowKit
theorem Fc (a : Nat) : IntKind.wrap .i32 a = iN a := rfl
section
variable (W0 : World) (R : List HP) (a b : Nat)
theorem a2P : sQ W0 453 [.agg #[wV a, wV b]] R (wV (u32 (a + b))) R := by
 refine am func453 ntmps453 ?_;refine bz fun c => ?_;refine aa (db rfl rfl (d8 _)) ?_;exact ac ao
theorem a2Q : sQ W0 454 [.agg #[wV a, wV b]] R (wV (u32 (a - b))) R := by
 refine am func454 ntmps454 ?_;refine bz fun c => ?_;refine aa (lg rfl rfl (d8 _)) ?_;exact ac ao
theorem a2R (c : a < 4294967296) (d : b < 4294967296) : sQ W0 447 [.agg #[wV a, wV b]] R (wV (a &&& b)) R := by
 refine am func447 ntmps447 ?_;refine bz fun e => ?_;refine aa (eH rfl rfl (lk c d)) ?_;exact ac ao
theorem a2S (c : a < 4294967296) (d : b < 4294967296) : sQ W0 448 [.agg #[wV a, wV b]] R (wV (a ||| b)) R := by
 refine am func448 ntmps448 ?_;refine bz fun e => ?_;refine aa (mD rfl rfl (mH c d)) ?_;exact ac ao
theorem Lv : tP .u32 a b = (u32 (tP .u32 a b)) := by
 grind [tP, d8, dK, vQ]
theorem a2T : sQ W0 449 [.agg #[wV a, wV b]] R (wV (u32 (tP .u32 a b))) R := by
 refine am func449 ntmps449 ?_;refine bz fun c => ?_;refine aa (Hi rfl rfl (Lv a b)) ?_;exact ac ao
theorem yx x n : iw .u32 x n = (u32 (iw .u32 x n)) := by
 grind [iw, d8, vQ, dK]
theorem a2U : sQ W0 450 [.agg #[wV a, wV b]] R (wV (u32 (iw .u32 a (b % 32 : Nat)))) R := by
 refine am func450 ntmps450 ?_;refine bz fun c => ?_;refine aa (dT rfl rfl (by decide) (iJ b 32)) ?_;refine aa (lh rfl rfl (by omega) (yx _ _)) ?_;exact ac ao
theorem a2V : sQ W0 451 [.agg #[wV a, wV b]] R (wV (a / 2 ^ (b % 32))) R := by
 have c : b % 32 ≤ (IntKind.bits .u32) := by
  have := Qce b (show 0 < 32 by decide);show b % 32 ≤ 32;omega
 refine am func451 ntmps451 ?_;refine bz fun d => ?_;refine aa (dT rfl rfl (by decide) (iJ b 32)) ?_;refine aa (j0 rfl rfl (by omega) (jQ (k := .u32) (s := b % 32) c)) ?_;exact ac ao
theorem a2W : sQ W0 452 [.agg #[wV a, wV b]] R (wV (u32 (jK .i32 (iN a) (b % 32 : Nat)))) R := by
 refine am func452 ntmps452 ?_;refine bz fun c => ?_;refine aa (bD (Fc a)) ?_;refine aa (dT rfl rfl (by decide) (iJ b 32)) ?_;refine aa (j0 rfl rfl (by omega) rfl) ?_;refine aa (bD (d8 _)) ?_;exact ac ao
theorem a2X : sQ W0 455 [.agg #[wV a, wV b]] R (wV (u32 (a * b))) R := by
 refine am func455 ntmps455 ?_;refine bz fun c => ?_;refine aa (pY rfl rfl (d8 _)) ?_;exact ac ao
theorem Lw x : sQ W0 458 [.bool x] R (wV (oS x)) R := by
 refine am func458 ntmps458 ?_;refine ai (fun a => ?_) fun a => ?_;rw [show oS x = 1 by rw [a]; rfl];exact ac ao;rw [show oS x = 0 by rw [show x = false by simpa using a]; rfl];exact ac ao
theorem Lx : sQ W0 428 [.agg #[wV a, wV b]] R (wV (oS (decide (iN a < iN b)))) R := by
 refine am func428 ntmps428 ?_;refine bz fun c => ?_;refine aa (bD (Fc a)) ?_;refine aa (bD (Fc b)) ?_;refine ah (aC call458 (Lw W0 _ (decide (iN a < iN b)))) ?_;exact ac ao
theorem yy : (decide (a < (b : Int))) = decide (a < b) := by
 grind
theorem Ly : sQ W0 429 [.agg #[wV a, wV b]] R (wV (oS (decide (a < b)))) R := by
 rw [← yy];refine am func429 ntmps429 ?_;refine ez (kg rfl) fun d => ?_;refine ae rfl (bA rfl) (aL (aH (aO (aX ?_))));refine ae rfl (d5 rfl tK rfl aW rfl (by first | exact Qac _ | rfl)) ?_;refine ae rfl (cu mw rfl (aI rfl)) ?_;refine ae rfl (d5 rfl tK rfl aW rfl (by first | exact Qac _ | rfl)) ?_;refine ae rfl (cu mw rfl (aI rfl)) ?_;refine ae rfl (nu rfl rfl) (aD rfl (iE call458 rfl (Lw W0 _ (decide ((a : Int) < (b : Int))))) ?_);rintro _ e ⟨rfl, c⟩;obtain rfl := c.symm;refine ae rfl (bA rfl) (aL (aH (dE ?_)));exact ac ao
theorem a2Y (d : a < 4294967296) : sQ W0 456 [.agg #[wV a, wV b]] R (wV (if b = 0 then 4294967295 else a / b)) R := by
 have e : a / b < 4294967296 := QaI (QbR _ _) d;refine am func456 ntmps456 ?_;refine ez (kg rfl) fun g => ?_;refine ae rfl (bA rfl) (aL (aH (aO (aO (aX ?_)))));refine ae rfl (d5 rfl tK rfl aW rfl (by first | exact Qac _ | rfl)) ?_;refine ae rfl (cu mw rfl (aI rfl)) ?_;refine ae rfl (ix rfl rfl) (aL (aH ?_));refine aA rfl (fun f => ?_) fun f => ?_;refine au 7 ?_;refine ac ?_;rw [Qad (by omega)];exact ao;refine aw ?_;have c : b ≠ 0 := by omega
 rw [Qaa c];refine aa (nr rfl rfl (by omega) (by rw [ql]; exact cW ⟨Int.natCast_nonneg _, Int.ofNat_lt.2 e⟩ : IntKind.wrap .u32 (Int.tdiv (a : Int) (b : Int)) = ((a / b : Nat) : Int))) ?_;exact ac ao
theorem a2Z (e : a < 4294967296) : sQ W0 457 [.agg #[wV a, wV b]] R (wV (if b = 0 then a else a % b)) R := by
 refine am func457 ntmps457 ?_;refine ez (kg rfl) fun f => ?_;refine ae rfl (bA rfl) (aL (aH (aO (aO (aX ?_)))));refine ae rfl (d5 rfl tK rfl aW rfl (by first | exact Qac _ | rfl)) ?_;refine ae rfl (cu mw rfl (aI rfl)) ?_;refine ae rfl (ix rfl rfl) (aL (aH ?_));refine aA rfl (fun d => ?_) fun d => ?_;refine au 9 ?_;refine ac ?_;rw [Qad (by omega)];exact ao;refine aw ?_;have c : b ≠ 0 := by omega
 rw [Qaa c];refine aa (dT rfl rfl (by omega) (iJ a b)) ?_;exact ac ao
def Fe (f : FuncId) (op : Nat) : Prop := (∀ args w, (callFunc f args).run Tryz.prog w = .ok (.enter f args) w) ∧ ∀ R, bE Tryz.prog W0 f ([] ++ [.agg #[wV a, wV b]] ++ []) R (fun v B => v = wV (kw op a b) ∧ B = R)
theorem oq {f op n} (d : ∀ c w, (callFunc f c).run Tryz.prog w = .ok (.enter f c) w) (e : kw op a b = n) (h : ∀ R, bE Tryz.prog W0 f [.agg #[wV a, wV b]] R (fun v B => v = wV n ∧ B = R)) : Fe W0 a b f op := ⟨d, by rw [e]; exact h⟩
theorem a20 (c : Nat) (h : 3 ≤ c ∧ c ≤ 8) (e : a < 4294967296) (g : b < 4294967296) : sP W0 426 [iQ c] R (fun v B => ∃ f, v = .func (.func f) #[] #[] ∧ B = R ∧ Fe W0 a b f c) := by
 refine am func426 ntmps426 ?_;refine ai (fun i => ?_) fun i => ?_;refine ac ?_;obtain rfl : c = 3 := by omega
 exact ⟨_, ⟨_, rfl, rfl, oq W0 a b call447 rfl fun R => a2R W0 R a b e g⟩, IO⟩;refine ai (fun j => ?_) fun j => ?_;refine ac ?_;obtain rfl : c = 4 := by omega
 exact ⟨_, ⟨_, rfl, rfl, oq W0 a b call448 rfl fun R => a2S W0 R a b e g⟩, IO⟩;refine ai (fun k => ?_) fun k => ?_;refine ac ?_;obtain rfl : c = 5 := by omega
 exact ⟨_, ⟨_, rfl, rfl, oq W0 a b call449 rfl fun R => a2T W0 R a b⟩, IO⟩;refine ai (fun l => ?_) fun l => ?_;refine ac ?_;obtain rfl : c = 6 := by omega
 exact ⟨_, ⟨_, rfl, rfl, oq W0 a b call450 rfl fun R => a2U W0 R a b⟩, IO⟩;refine ai (fun d => ?_) fun d => ?_;refine ac ?_;obtain rfl : c = 7 := by omega
 exact ⟨_, ⟨_, rfl, rfl, oq W0 a b call451 rfl fun R => a2V W0 R a b⟩, IO⟩;refine ac ?_;obtain rfl : c = 8 := by omega
 exact ⟨_, ⟨_, rfl, rfl, oq W0 a b call452 rfl fun R => a2W W0 R a b⟩, IO⟩
theorem Lz (c : Nat) (h : 1 ≤ c ∧ c ≤ 13 ∧ (c < 3 ∨ 8 < c)) (g : a < 4294967296) : sP W0 427 [iQ c] R (fun v B => ∃ f, v = .func (.func f) #[] #[] ∧ B = R ∧ Fe W0 a b f c) := by
 refine am func427 ntmps427 ?_;refine ai (fun i => ?_) fun i => ?_;refine ac ?_;obtain rfl : c = 1 := by omega
 exact ⟨_, ⟨_, rfl, rfl, oq W0 a b call453 rfl fun R => a2P W0 R a b⟩, IO⟩;refine ai (fun j => ?_) fun j => ?_;refine ac ?_;obtain rfl : c = 2 := by omega
 exact ⟨_, ⟨_, rfl, rfl, oq W0 a b call454 rfl fun R => a2Q W0 R a b⟩, IO⟩;refine ai (fun k => ?_) fun k => ?_;refine ac ?_;obtain rfl : c = 9 := by omega
 exact ⟨_, ⟨_, rfl, rfl, oq W0 a b call428 rfl fun R => Lx W0 R a b⟩, IO⟩;refine ai (fun l => ?_) fun l => ?_;refine ac ?_;obtain rfl : c = 10 := by omega
 exact ⟨_, ⟨_, rfl, rfl, oq W0 a b call429 rfl fun R => Ly W0 R a b⟩, IO⟩;refine ai (fun d => ?_) fun d => ?_;refine ac ?_;obtain rfl : c = 11 := by omega
 exact ⟨_, ⟨_, rfl, rfl, oq W0 a b call455 rfl fun R => a2X W0 R a b⟩, IO⟩;refine ai (fun e => ?_) fun e => ?_;refine ac ?_;obtain rfl : c = 12 := by omega
 exact ⟨_, ⟨_, rfl, rfl, oq W0 a b call456 rfl fun R => a2Y W0 R a b g⟩, IO⟩;refine ac ?_;obtain rfl : c = 13 := by omega
 exact ⟨_, ⟨_, rfl, rfl, oq W0 a b call457 rfl fun R => a2Z W0 R a b g⟩, IO⟩
theorem LA (e : Nat) (h : 1 ≤ e ∧ e ≤ 13) (j : a < 4294967296) (k : b < 4294967296) : sQ W0 385 [iQ e, wV a, wV b] R (.tuple #[wV (kw e a b), iQ 0]) R := by
 refine am func385 ntmps385 ?_;refine aA rfl (fun l => ?_) fun l => ?_;omega;refine aw ?_;refine aA rfl (fun m => ?_) fun m => ?_;omega;refine aw ?_;refine bO (fun g => ?_) fun g => ?_;refine ai (fun n => ?_) fun n => ?_;refine aD rfl (aC call426 (a20 W0 _ a b e (by omega) j k)) ?_;rintro _ i ⟨f, rfl, c, d⟩;obtain rfl := c.symm;refine ae rfl (aM rfl) (ae rfl (aM rfl) (ae rfl (fR tK Cy (aP aW (aP aW fQ)) (cA rfl aW rfl rfl (Qab rfl) SetL.eq (cA rfl aW rfl rfl (Qab rfl) SetL.eq fP))) ?_));refine aD rfl (je (us := []) (cs := []) rfl d.1 rfl (d.2 _)) ?_;rintro _ i ⟨rfl, c⟩;obtain rfl := c.symm;refine ae rfl (bA rfl) (ae rfl (bA rfl) (aL (aH (dE (mB (iU ?_))))));exact az ao;refine aD rfl (aC call427 (Lz W0 _ a b e (by omega) j)) ?_;rintro _ i ⟨f, rfl, c, d⟩;obtain rfl := c.symm;refine ae rfl (aM rfl) (ae rfl (aM rfl) (ae rfl (fR tK Cy (aP aW (aP aW fQ)) (cA rfl aW rfl rfl (Qab rfl) SetL.eq (cA rfl aW rfl rfl (Qab rfl) SetL.eq fP))) ?_));refine aD rfl (je (us := []) (cs := []) rfl d.1 rfl (d.2 _)) ?_;rintro _ i ⟨rfl, c⟩;obtain rfl := c.symm;refine ae rfl (bA rfl) (ae rfl (bA rfl) (aL (aH (dE ?_))));exact az ao;refine aD rfl (aC call427 (Lz W0 _ a b e (by omega) j)) ?_;rintro _ i ⟨f, rfl, c, d⟩;obtain rfl := c.symm;refine ae rfl (aM rfl) (ae rfl (aM rfl) (ae rfl (fR tK Cy (aP aW (aP aW fQ)) (cA rfl aW rfl rfl (Qab rfl) SetL.eq (cA rfl aW rfl rfl (Qab rfl) SetL.eq fP))) ?_));refine aD rfl (je (us := []) (cs := []) rfl d.1 rfl (d.2 _)) ?_;rintro _ i ⟨rfl, c⟩;obtain rfl := c.symm;refine ae rfl (bA rfl) (ae rfl (bA rfl) (aL (aH (dE ?_))));exact az ao
theorem LB p : (((oS p) : Int) == 1) = p := by cases p <;> rfl
theorem Ff : (a == (b : Int)) = decide (a = b) := by
 grind
theorem LC : (a != (b : Int)) = decide (a ≠ b) := by
 grind
theorem a21 (c : Nat) (h : 28 ≤ c ∧ c ≤ 31) : sQ W0 392 [iQ c, wV a, wV b] R (.tuple #[.bool (un c a b), iQ 0]) R := by
 refine lL func392 ntmps392 rfl rfl ?_;refine aO (aX (ae rfl (bA rfl) (ae rfl (bA rfl) (aL (aH (aO (aX (ae rfl (aM rfl) (ae rfl (aM rfl) (ae rfl (fR tK Cy (aP aW (aP aW fQ)) (cA rfl aW rfl rfl (Qab rfl) SetL.eq (cA rfl aW rfl rfl (Qab rfl) SetL.eq fP))) ?_))))))))));refine aD rfl (dx Cy) ?_;rintro _ _ ⟨k, rfl, rfl⟩;refine ar aF ?_;refine aA rfl (fun e => ?_) fun e => ?_;refine aO ?_;refine aX (ae rfl (aM rfl) (ae rfl (aM rfl) (ae rfl (ix rfl rfl) (ae rfl (bA rfl) (ae rfl (bA rfl) (aL (aH (dE (mB (iU (bX (.inl rfl) (.cons (aS rfl) (.cons (aS rfl) .nil)) ?_)))))))))));obtain rfl : c = 28 := by omega
 exact ⟨_, ⟨by rw [Ff]; rfl, rfl⟩, IO⟩;refine aw ?_;refine aA rfl (fun f => ?_) fun f => ?_;refine aO ?_;refine aX (ae rfl (aM rfl) (ae rfl (aM rfl) (ae rfl (nt rfl rfl) (ae rfl (bA rfl) (ae rfl (bA rfl) (aL (aH (dE (mB (iU (bX (.inl rfl) (.cons (aS rfl) (.cons (aS rfl) .nil)) ?_)))))))))));obtain rfl : c = 29 := by omega
 exact ⟨_, ⟨by rw [LC]; rfl, rfl⟩, IO⟩;refine aw ?_;refine ai (fun g => ?_) fun g => ?_;refine aD rfl (iE call428 rfl (Lx W0 _ a b)) ?_;rintro _ i ⟨rfl, d⟩;obtain rfl := d.symm;refine ae rfl (ix rfl rfl) (ae rfl (bA rfl) (ae rfl (bA rfl) (aL (aH (dE (mB (iU (bX (.inl rfl) (.cons (aS rfl) (.cons (aS rfl) .nil)) ?_))))))));obtain rfl : c = 30 := by omega
 exact ⟨_, ⟨by rw [LB]; rfl, rfl⟩, IO⟩;refine aA rfl (fun j => ?_) fun j => ?_;refine au 3 ?_;refine aD rfl (iE call429 rfl (Ly W0 _ a b)) ?_;rintro _ i ⟨rfl, d⟩;obtain rfl := d.symm;refine ae rfl (ix rfl rfl) (ae rfl (bA rfl) (ae rfl (bA rfl) (aL (aH (dE (mB (iU (bX (.inl rfl) (.cons (aS rfl) (.cons (aS rfl) .nil)) ?_))))))));obtain rfl : c = 31 := by omega
 exact ⟨_, ⟨by rw [LB]; rfl, rfl⟩, IO⟩;omega
theorem a22 (op : Nat) (h : 14 ≤ op ∧ op ≤ 21) : sQ W0 389 [iQ op] R (.tuple #[iQ (ib op), .bool true]) R := by
 refine am func389 ntmps389 ?_;refine ai (fun c => ?_) fun c => ?_;refine az ?_;obtain rfl : op = 14 := by omega
 exact ao;refine ai (fun d => ?_) fun d => ?_;refine az ?_;obtain rfl : op = 21 := by omega
 exact ao;refine ai (fun e => ?_) fun e => ?_;refine aa gF ?_;refine aa (db rfl rfl (by rw [co (by omega), ib, Qaa (by omega), Qaa (by omega)]; omega : IntKind.wrap .i64 (((op : Int) - 15) + 3) = ((ib op : Nat) : Int))) ?_;exact az ao;refine ai (fun f => ?_) fun f => ?_;refine aa gF ?_;refine aa (db rfl rfl (by rw [co (by omega), ib, Qaa (by omega), Qaa (by omega)]; omega : IntKind.wrap .i64 (((op : Int) - 15) + 3) = ((ib op : Nat) : Int))) ?_;exact az ao;refine ai (fun g => ?_) fun g => ?_;refine aa gF ?_;refine aa (db rfl rfl (by rw [co (by omega), ib, Qaa (by omega), Qaa (by omega)]; omega : IntKind.wrap .i64 (((op : Int) - 15) + 3) = ((ib op : Nat) : Int))) ?_;exact az ao;refine ai (fun i => ?_) fun i => ?_;refine aa gF ?_;refine aa (db rfl rfl (by rw [co (by omega), ib, Qaa (by omega), Qaa (by omega)]; omega : IntKind.wrap .i64 (((op : Int) - 15) + 3) = ((ib op : Nat) : Int))) ?_;exact az ao;refine ai (fun a => ?_) fun a => ?_;refine aa gF ?_;refine aa (db rfl rfl (by rw [co (by omega), ib, Qaa (by omega), Qaa (by omega)]; omega : IntKind.wrap .i64 (((op : Int) - 15) + 3) = ((ib op : Nat) : Int))) ?_;exact az ao;refine aA rfl (fun b => ?_) fun b => ?_;refine au 3 ?_;refine aa gF ?_;refine aa (db rfl rfl (by rw [co (by omega), ib, Qaa (by omega), Qaa (by omega)]; omega : IntKind.wrap .i64 (((op : Int) - 15) + 3) = ((ib op : Nat) : Int))) ?_;exact az ao;omega
theorem a23 im : sQ W0 390 [iQ im] R (wV (uo im)) R := by
 refine am func390 ntmps390 ?_;refine aa (bD (d8 im)) ?_;refine aa (lh rfl rfl (by decide) (yx _ _)) ?_;exact ac ao
end
@[reducible] def fC (i : Ins) : List Value := [.int .i64 i.op, .int .i64 i.d, .int .i64 i.a, .int .i64 i.b, .int .i64 i.im]
def kX : List Value := xA.map fun n => .int .i64 ((n : Nat) : Int)
section
variable {W0 : World}
theorem LD {R} (hH : ∀ A, bC (aQ W0 A) 0 0 kX) {op} (h : op < 42) : kf (aQ W0 R) 0 (op * 1) (iQ (fX op)) := by
 have a : op < xA.length := h
 have := hH R op (iQ ((fX op : Nat) : Int)) (by
   unfold kX;rw [QcO, QaV a]
   simp [fX, List.getD, a])
 rw [Qac] at this;rw [QaB];exact this
theorem a24 {W0 R} (a : Nat) : sQ W0 335 [iQ a] R (.bool (o8 a)) R := by
 refine am func335 ntmps335 ?_;refine bO (fun b => ?_) fun b => ?_;rw [show o8 a = decide ((a : Int) ≤ 41) by unfold o8; apply Qaz.2; omega];exact ac ao;rw [show o8 a = false by unfold o8; apply Qal; omega];exact ac ao
theorem Fg {W0 R} may (n : Nat) : sQ W0 336 [.bool may, iQ n] R (.bool (gX may n)) R := by
 cases may with
 | false =>
  refine am func336 ntmps336 ?_;refine aA rfl ?_ ?_;intro b;refine aw ?_;refine ac ?_;exact ⟨_, ⟨Qai Value.bool (Ff n 0), rfl⟩, IO⟩;intro b;exact absurd (by decide) b
 | true =>
  refine ju 12 func336 ntmps336 ?_;refine jf ?_;refine iF rfl rfl rfl (fun a => ?_) fun a => ?_;refine au 8 ?_;refine ac ?_;exact ⟨_, ⟨Qai Value.bool (yy n 16), rfl⟩, IO⟩;omega
theorem a25 : ∀ n, n < 16 → e9 .i64 (n : Nat) 8 = (n / 8 % 2 * 8 : Nat) := by decide +kernel
theorem a26 : ∀ n, n < 16 → e9 .i64 (n : Nat) 1 = (n % 2 : Nat) := by decide +kernel
theorem a27 : ∀ n, n < 16 → e9 .i64 (n : Nat) 2 = (n / 2 % 2 * 2 : Nat) := by decide +kernel
theorem a28 : ∀ n, n < 16 → e9 .i64 (n : Nat) 4 = (n / 4 % 2 * 4 : Nat) := by decide +kernel
theorem a29 n : (((n / 2 % 2 * 2 : Nat) : Int) != 0) = (n / 2 % 2 != 0) := by
 grind
theorem a3a n : (((n / 4 % 2 * 4 : Nat) : Int) != 0) = (n / 4 % 2 != 0) := by
 grind
theorem LE : ∀ a, a < 42 → fX a < 16 := by decide +kernel
theorem a3b {W0 R} (hH : ∀ A, bC (aQ W0 A) 0 0 kX) (op : Nat) (h : op < 42) n : sQ W0 337 [iQ op, iQ n] R (.bool (du op n)) R := by
 have d := LE op h;have e := LD (R := R) hH h;refine am func337 ntmps337 ?_;refine ai (fun f => ?_) fun f => ?_;refine bO (fun a => ?_) fun a => ?_;rw [show du op n = decide (n ≤ 31) by rw [du, Qad (by omega)]; apply Qaz.2; omega];exact ac ao;rw [show du op n = false by rw [du, Qad (by omega)]; apply Qal; omega];exact ac ao;refine ai (fun g => ?_) fun g => ?_;refine bO (fun a => ?_) fun a => ?_;rw [show du op n = decide (n ≤ 31) by rw [du, Qad (by omega)]; apply Qaz.2; omega];exact ac ao;rw [show du op n = false by rw [du, Qad (by omega)]; apply Qal; omega];exact ac ao;refine ai (fun i => ?_) fun i => ?_;refine bO (fun a => ?_) fun a => ?_;rw [show du op n = decide (n ≤ 31) by rw [du, Qad (by omega)]; apply Qaz.2; omega];exact ac ao;rw [show du op n = false by rw [du, Qad (by omega)]; apply Qal; omega];exact ac ao;refine ai (fun j => ?_) fun j => ?_;refine bO (fun b => ?_) fun b => ?_;rw [show du op n = decide (n < 9) by rw [du, Qaa (by omega), Qad (by omega)]; apply Qaz.2; omega];exact ac ao;rw [show du op n = false by rw [du, Qaa (by omega), Qad (by omega)]; apply Qal; omega];exact ac ao;refine ai (fun k => ?_) fun k => ?_;refine bO (fun b => ?_) fun b => ?_;rw [show du op n = decide (n < 9) by rw [du, Qaa (by omega), Qad (by omega)]; apply Qaz.2; omega];exact ac ao;rw [show du op n = false by rw [du, Qaa (by omega), Qad (by omega)]; apply Qal; omega];exact ac ao;refine aa (ew h) ?_;refine aa (aE e) ?_;refine aa (eH rfl rfl (a25 _ d)) ?_;refine ai (fun l => ?_) fun l => ?_;refine ac ?_;rw [du, Qaa (by omega), Qaa (by omega), Qad (by omega)];exact ⟨_, ⟨Qai Value.bool (by grind), rfl⟩, IO⟩;refine bO (fun c => ?_) fun c => ?_;rw [show du op n = decide (n ≤ 8191) by rw [du, Qaa (by omega), Qaa (by omega), Qaa (by omega)]; apply Qaz.2; omega];exact ac ao;rw [show du op n = false by rw [du, Qaa (by omega), Qaa (by omega), Qaa (by omega)]; apply Qal; omega];exact ac ao
theorem Bm {W0 R} (hH : ∀ A, bC (aQ W0 A) 0 0 kX) i : sQ W0 285 [.agg (fC i).toArray] R (.bool (gH i)) R := by
 obtain ⟨x, B⟩ : ∃ x, fX i.op = x := ⟨_, rfl⟩
 obtain ⟨q, r⟩ : ∃ p, (fX i.op % 2 != 0) = p := ⟨_, rfl⟩
 obtain ⟨s, t⟩ : ∃ p, (fX i.op / 2 % 2 != 0) = p := ⟨_, rfl⟩
 obtain ⟨u, v⟩ : ∃ p, (fX i.op / 4 % 2 != 0) = p := ⟨_, rfl⟩
 obtain ⟨e, w⟩ : ∃ p, gX q i.d = p := ⟨_, rfl⟩
 obtain ⟨h, y⟩ : ∃ p, gX s i.a = p := ⟨_, rfl⟩
 obtain ⟨k, z⟩ : ∃ p, gX u i.b = p := ⟨_, rfl⟩
 have f : gH i = (o8 i.op && e && h && k && du i.op i.im) := by
  grind [gH]
 rw [f];refine am func285 ntmps285 ?_;refine bz fun C => ?_;refine ah (aC call335 (a24 i.op)) ?_;refine ai (fun n => ?_) fun n => ?_;refine ac ?_;rw [show o8 i.op = false by simpa using n];exact ao;have o : o8 i.op = true := by grind
 have D := Qar o;have c : i.op < 42 := by omega
 have l := LE i.op c;rw [o, Qbb];refine aa (ew c) ?_;refine aa (aE (LD hH c)) ?_;refine aa (eH rfl rfl (a26 _ l)) ?_;refine ah (aC Ox (Fg _ i.d)) ?_;rw [yr, r, w];refine ai (fun g => ?_) fun g => ?_;refine ac ?_;rw [show e = false by simpa using g];exact ao;refine aa (eH rfl rfl (a27 _ l)) ?_;refine ah (aC Ox (Fg _ i.a)) ?_;rw [a29, t, y];refine ai (fun j => ?_) fun j => ?_;refine ac ?_;rw [show e = true by simpa using g, show h = false by simpa using j];exact ao;refine aa (eH rfl rfl (a28 _ l)) ?_;refine ah (aC Ox (Fg _ i.b)) ?_;rw [a3a, v, z];refine ai (fun m => ?_) fun m => ?_;refine ac ?_;rw [show e = true by simpa using g, show h = true by simpa using j, show k = false by simpa using m];exact ao;refine ah (aC call337 (a3b hH i.op c i.im)) ?_;refine ac ?_;rw [show e = true by simpa using g, show h = true by simpa using j, show k = true by simpa using m];exact ao
theorem Bn {W0 R} (w k n : Nat) (e : w < 4294967296) (f : k ≤ 32) (g : n < 32) : sQ W0 284 [wV w, iQ k, iQ n] R (iQ (w / 2 ^ k % 2 ^ n : Nat)) R := by
 have i : 2 ^ n < 4294967296 := Nat.pow_lt_pow_right (by decide) (show n < 32 from g) (a := 2);have c : 0 < 2 ^ n := Qcr n;have h : w / 2 ^ k < 4294967296 := QaI (QbR _ _) e;have j : w / 2 ^ k % 2 ^ n < 2 ^ n := Qce _ c;have d : iw .u32 1 ((n : Nat) : Int) = ((2 ^ n : Nat) : Int) := by
  unfold iw;rw [Qae, Qbg (show n ≤ IntKind.bits .u32 by show n ≤ 32; omega), Int.one_mul];rw [show ((2 : Int) ^ n) = ((2 ^ n : Nat) : Int) by push_cast; rfl];exact cW (by omega)
 refine am func284 ntmps284 ?_;refine bq [] 9 fun b => ?_;refine aj 0 2 b ?_;refine ax 2 b (j0 rfl rfl (by omega) (jQ (k := .u32) f)) ?_;refine aj 3 1 b ?_;refine ax 4 b (lh rfl rfl (by omega) d) ?_;refine ax 5 b (lg rfl rfl (by rw [show ((2 ^ n : Nat) : Int) - 1 = ((2 ^ n - 1 : Nat) : Int) by omega]; exact cW (by omega) : IntKind.wrap .u32 (((2 ^ n : Nat) : Int) - 1) = ((2 ^ n - 1 : Nat) : Int))) ?_;refine ax 6 b (eH rfl rfl (by rw [lk h (by omega), rC])) ?_;refine ax 7 b (bD (co (by omega))) ?_;refine aj 8 1 b ?_;refine aJ ?_;exact ac ao
theorem a3c {w : Nat} (a : w < 4294967296) : jK .i32 (IntKind.wrap .i32 w) 18 = rI w := by
 have e : IntKind.wrap .i32 (w : Int) = if w < 2147483648 then (w : Int) else (w : Int) - 4294967296 := by
  simp only [IntKind.wrap, IntKind.bits, IntKind.signed];simp;omega
 rw [e];unfold jK rI;rw [show min (18 : Int).toNat (IntKind.bits .i32) = 18 by decide];rw [Int.fdiv_eq_ediv_of_nonneg _ (by decide)];split;omega;omega
abbrev Bo : Ins := ⟨0, 0, 0, 0, 0⟩
theorem a3d {W0 R} (l : ∀ A, bC (aQ W0 A) 0 0 kX) w (c : w < 4294967296) : sQ W0 211 [wV w] R (.tuple #[.agg (fC (if gH (fq w) then fq w else Bo)).toArray, .bool (gH (fq w))]) R := by
 have f : w / 2 ^ 0 % 2 ^ 6 = (fq w).op := by simp [fq]
 have g : w / 2 ^ 6 % 2 ^ 4 = (fq w).d := rfl;have h : w / 2 ^ 10 % 2 ^ 4 = (fq w).a := rfl;have j : w / 2 ^ 14 % 2 ^ 4 = (fq w).b := rfl;have k : rI w = (fq w).im := rfl;have o := XX c;obtain ⟨i, m⟩ : ∃ i, fq w = i := ⟨_, rfl⟩
 rw [m] at f g h j k ⊢;obtain ⟨z, n⟩ : ∃ z, gH i = z := ⟨_, rfl⟩
 refine am func211 ntmps211 ?_;refine bj fun p => ?_;refine ah (aC GY (Bn w 0 6 c (by decide) (by decide))) ?_;rw [f];refine ah (aC GY (Bn w 6 4 c (by decide) (by decide))) ?_;rw [g];refine ah (aC GY (Bn w 10 4 c (by decide) (by decide))) ?_;rw [h];refine ah (aC GY (Bn w 14 4 c (by decide) (by decide))) ?_;rw [j];refine aa (bD rfl) ?_;refine aa (j0 rfl rfl (by decide) ((a3c c).trans k)) ?_;refine aa (bD (co (by omega))) ?_;refine bj fun q => ?_;refine ar aF ?_;refine ah (aC GZ (Bm l i)) ?_;rw [n];refine ai (fun e => ?_) fun e => ?_;refine ar aF ?_;refine aV (.cons (bi C5 pw rfl rfl) (.cons (aS rfl) .nil)) ?_;rw [show z = false by simpa using e];exact ao;refine ar aF ?_;refine aV (.cons (bi C5 pw rfl rfl) (.cons (aS rfl) .nil)) ?_;rw [show z = true by simpa using e];exact ao
theorem LF {W0 R} (a : Nat) : sQ W0 287 [iQ a] R (.bool (ie a)) R := by
 refine am func287 ntmps287 ?_;refine ai (fun b => ?_) fun b => ?_;refine ac ?_;rw [show ie a = true from Qah (by omega)];exact ao;refine ai (fun c => ?_) fun c => ?_;refine ac ?_;rw [show ie a = true from Qah (by omega)];exact ao;refine ai (fun d => ?_) fun d => ?_;refine ac ?_;rw [show ie a = true from Qah (by omega)];exact ao;refine ai (fun e => ?_) fun e => ?_;refine ac ?_;rw [show ie a = true from Qah (by omega)];exact ao;refine ai (fun f => ?_) fun f => ?_;refine ac ?_;rw [show ie a = true from Qah (by omega)];exact ao;refine ai (fun g => ?_) fun g => ?_;refine ac ?_;rw [show ie a = true from Qah (by omega)];exact ao;refine ac ?_;rw [show ie a = false from Qal (by omega)];exact ao
theorem a3e x y : lG .u32 x y = (u32 (lG .u32 x y)) := by
 grind [lG, d8, vQ, dK]
theorem a3f {W0 R} (c : ∀ A, bC (aQ W0 A) 0 0 kX) i (b : gH i = true) : sQ W0 339 [.agg (fC i).toArray] R (.tuple #[wV (mN i), iQ 0]) R := by
 obtain ⟨d, e, f, g, h⟩ := rJ b;refine am func339 ntmps339 ?_;refine bz fun j => ?_;refine ah (aC GZ (Bm c i)) ?_;refine aA rfl (fun a => ?_) fun a => ?_;rw [b] at a; exact absurd a (by decide);refine aw ?_;refine aa (bD (cW (by omega))) ?_;refine aa (bD (cW (by omega))) ?_;refine aa (lh rfl rfl (by decide) rfl) ?_;refine aa (mD rfl rfl rfl) ?_;refine aa (bD (cW (by omega))) ?_;refine aa (lh rfl rfl (by decide) rfl) ?_;refine aa (mD rfl rfl rfl) ?_;refine aa (bD (cW (by omega))) ?_;refine aa (lh rfl rfl (by decide) rfl) ?_;refine aa (mD rfl rfl rfl) ?_;refine aa (bD (d8 i.im)) ?_;refine aa (lh rfl rfl (by decide) rfl) ?_;refine aa (mD rfl rfl (a3e _ _)) ?_;exact az ao
end
@[reducible] def cP (e : Eff) : List Value := [.int .i64 e.k, wV e.pc, wV e.addr, .int .i64 e.width, .bool e.signed, .int .i64 e.d, wV e.val, wV e.cause, wV e.tval]
@[reducible] def coV (i : Ins) (rb cb : Nat) (clock : Int) : List Value := fC i ++ [pV rb, pV cb, .int .i64 clock]
abbrev ot (i : Ins) (rb cb : Nat) (clock : Int) : Obj := ag (coV i rb cb clock) 411
abbrev fZ (sb : Nat) (i : Ins) (rb cb : Nat) (clock : Int) (x : Cpu) (id : Nat) (R : List HP) : List HP := pt sb (ot i rb cb clock) :: pt rb (dD x.rl x.pc) :: pt cb (dZ x.cs id) :: R
section
variable (W0 : World) (R : List HP) (sb : Nat) (i : Ins) (rb cb : Nat) (clock : Int) (x : Cpu) (id : Nat)
theorem qS (a : CpOk x) (n : Nat) (b : n < 16) : sQ W0 386 [pV sb, iQ n] (pt sb (ot i rb cb clock) :: pt rb (dD x.rl x.pc) :: R) (wV (bL x.rl n)) (pt sb (ot i rb cb clock) :: pt rb (dD x.rl x.pc) :: R) := by
 refine am func386 ntmps386 ?_;refine ah (ap Oy (EL rb x.rl x.pc n a.r.len b)) ?_;exact ac ao
theorem rT (a : CpOk x) : sQ W0 388 [pV sb] (pt sb (ot i rb cb clock) :: pt rb (dD x.rl x.pc) :: R) (wV (cQ x.pc)) (pt sb (ot i rb cb clock) :: pt rb (dD x.rl x.pc) :: R) := by
 refine am func388 ntmps388 ?_;refine ah (ap sh (qJ rb x.rl x.pc a.r.len)) ?_;refine aa (db rfl rfl (d8 _)) ?_;exact ac ao
theorem LG (b : CpOk x) : sQ W0 394 [pV sb] (pt sb (ot i rb cb clock) :: pt rb (dD x.rl x.pc) :: R) (wV (mP x.pc i.im)) (pt sb (ot i rb cb clock) :: pt rb (dD x.rl x.pc) :: R) := by
 refine am func394 ntmps394 ?_;refine bq [sb] 14 fun a => ?_;refine aj 0 4 a ?_;refine aj 5 5 a ?_;refine ax 10 a (bD (d8 i.im)) ?_;refine ax 11 a (pY rfl rfl (d8 _)) ?_;refine cg 4 (ap sh (qJ rb x.rl x.pc b.r.len)) fun a => ?_;refine ax 12 a (db rfl rfl (d8 _)) ?_;refine aj 13 1 a ?_;refine aJ ?_;exact ac ao
theorem yz (b : CpOk x) pc : sQ W0 393 [pV sb, wV pc] (pt sb (ot i rb cb clock) :: pt rb (dD x.rl x.pc) :: R) (.agg (cP (lq x pc).1).toArray) (pt sb (ot i rb cb clock) :: pt rb (dD (lq x pc).2.rl (lq x pc).2.pc) :: R) := by
 refine am func393 ntmps393 ?_;refine bj fun c => ?_;refine aD rfl (gU Cz rfl (y5 rb x.rl x.pc pc b.r.len)) ?_;rintro _ d ⟨rfl, a⟩;obtain rfl := a.symm;refine aL (aH (aO (aX (ae rfl (aM rfl) (ae rfl (fR sd lc (aP aR (aP aW (aP aW (aP aR (aP iT (aP aR (aP aW (aP aW (aP aW fQ))))))))) (cA rfl aR rfl rfl (Qab rfl) SetL.eq (cA rfl aW rfl rfl (Qab rfl) SetL.eq fP))) ?_)))));refine fh (fN dr rfl rfl rfl rfl rfl) ?_;rintro _ _ rfl;refine aL (aH (dE ?_));exact aV (.cons (bi dL dr rfl rfl) .nil) ao
theorem yA (b : CpOk x) (g : i.d < 16) v pc (f : v < 4294967296) : sP W0 387 [pV sb, wV v, wV pc] (pt sb (ot i rb cb clock) :: pt rb (dD x.rl x.pc) :: R) (fun r B => r = .agg (cP (jT i x v pc).1).toArray ∧ B = pt sb (ot i rb cb clock) :: pt rb (dD (jT i x v pc).2.rl (jT i x v pc).2.pc) :: R) := by
 have a : gO (i.d : Int) = true := by grind [gO]
 refine am func387 ntmps387 ?_;refine bj fun h => ?_;refine bq [sb] 11 fun c => ?_;refine aj 0 10 c ?_;refine cj 10 (ap CB (Fa rb x.rl x.pc v i.d b.r.len)) ?_; clear c;rintro _ j ⟨rfl, e⟩;obtain rfl := e.symm;rw [Qad a, Qad a, Qae];refine ⟨aT, fun c => ?_⟩;refine aJ ?_;refine ah (cq CC (yz W0 _ sb i rb cb clock { x with rl := j5 x.rl i.d v } ⟨b.r.set i.d v f, b.pc, b.cs⟩ pc)) ?_;refine ar aF ?_;exact aV (.cons (bi dL dr rfl rfl) .nil) ao
theorem wn {W0 R} c t : sQ W0 288 [wV c, wV t] R (.agg (cP (mg c t)).toArray) R := by
 refine am func288 ntmps288 ?_;refine ez (dx lc) fun a => ?_;refine aL (aH (aO (aX (ae rfl (aM rfl) (ae rfl (aM rfl) (ae rfl (fR sd lc (aP aR (aP aW (aP aW (aP aR (aP iT (aP aR (aP aW (aP aW (aP aW fQ))))))))) (cA rfl aR rfl rfl (Qab rfl) SetL.eq (cA rfl aW rfl rfl (Qab rfl) SetL.eq (cA rfl aW rfl rfl (Qab rfl) SetL.eq fP)))) ?_))))));refine fh (fN dr rfl rfl rfl rfl rfl) ?_;rintro _ _ rfl;refine aL (aH (dE ?_));exact aV (.cons (bi dL dr rfl rfl) .nil) ao
theorem a3h : sQ W0 391 [pV sb] (pt sb (ot i rb cb clock) :: R) (iQ (mR i.op)) (pt sb (ot i rb cb clock) :: R) := by
 refine am func391 ntmps391 ?_;refine cz (fun a => ?_) fun a => ?_;refine ac ?_;rw [mR, Qad (by omega)];exact ao;refine ai (fun b => ?_) fun b => ?_;refine ac ?_;rw [mR, Qad (by omega)];exact ao;refine ac ?_;rw [mR, Qaa (by omega)];exact ao
def Fh (f : FuncId) (o : Eff × Cpu) : Prop := (∀ args w, (callFunc f args).run Tryz.prog w = .ok (.enter f args) w) ∧ ∀ R, bE Tryz.prog W0 f ([pV sb] ++ [] ++ []) (fZ sb i rb cb clock x id R) (fun v B => v = .agg (cP o.1).toArray ∧ B = fZ sb i rb cb clock o.2 id R)
theorem a3i (c : CpOk x) (j : i.d < 16) (k : i.a < 16) (l : i.b < 16) (h : 1 ≤ i.op ∧ i.op ≤ 13) : sQ W0 340 [pV sb] (fZ sb i rb cb clock x id R) (.agg (cP (jT i x (kw i.op (bL x.rl i.a) (bL x.rl i.b)) (cQ x.pc)).1).toArray) (fZ sb i rb cb clock (jT i x (kw i.op (bL x.rl i.a) (bL x.rl i.b)) (cQ x.pc)).2 id R) := by
 have f := c.r.at_ i.a;have g := c.r.at_ i.b;refine am func340 ntmps340 ?_;refine bj fun m => ?_;refine bq [sb] 25 fun e => ?_;refine aj 0 11 e ?_;refine aj 12 6 e ?_;refine cg 11 (cq si (qS W0 _ sb i rb cb clock x c i.a k)) fun e => ?_;refine cg 18 (cq si (qS W0 _ sb i rb cb clock x c i.b l)) fun e => ?_;refine cg 19 (aC call385 (LA W0 _ (bL x.rl i.a) (bL x.rl i.b) i.op h f g)) fun e => ?_;refine aj 20 5 e ?_;refine aJ ?_;refine ah (cq tN (rT W0 _ sb i rb cb clock x c)) ?_;refine ah (cq CE (yA W0 _ sb i rb cb clock x c j (kw i.op (bL x.rl i.a) (bL x.rl i.b)) (cQ x.pc) (vR f g))) ?_;refine ar aF ?_;exact aV (.cons (bi dL dr rfl rfl) .nil) ao
theorem a3j (hx : CpOk x) (hi : i.d < 16) (ha : i.a < 16) (h : 14 ≤ i.op ∧ i.op ≤ 21) : sQ W0 341 [pV sb] (fZ sb i rb cb clock x id R) (.agg (cP (jT i x (kw (ib i.op) (bL x.rl i.a) (u32 i.im)) (cQ x.pc)).1).toArray) (fZ sb i rb cb clock (jT i x (kw (ib i.op) (bL x.rl i.a) (u32 i.im)) (cQ x.pc)).2 id R) := by
 have c := hx.r.at_ i.a;have e : 1 ≤ ib i.op ∧ ib i.op ≤ 13 := by
  grind [ib]
 refine am func341 ntmps341 ?_;refine bj fun f => ?_;refine ah (aC call389 (a22 W0 _ i.op h)) ?_;refine bq [sb] 20 fun b => ?_;refine aj 0 7 b ?_;refine aj 8 5 b ?_;refine ax 13 b (bD (d8 i.im)) ?_;refine cg 7 (cq si (qS W0 _ sb i rb cb clock x hx i.a ha)) fun b => ?_;refine cg 14 (aC call385 (LA W0 _ (bL x.rl i.a) (u32 i.im) (ib i.op) e c (dK _))) fun b => ?_;refine aj 15 5 b ?_;refine aJ ?_;refine ah (cq tN (rT W0 _ sb i rb cb clock x hx)) ?_;refine ah (cq CE (yA W0 _ sb i rb cb clock x hx hi (kw (ib i.op) (bL x.rl i.a) (u32 i.im)) (cQ x.pc) (vR c (dK _)))) ?_;refine ar aF ?_;exact aV (.cons (bi dL dr rfl rfl) .nil) ao
theorem a3k (a : CpOk x) (b : i.d < 16) : sQ W0 342 [pV sb] (fZ sb i rb cb clock x id R) (.agg (cP (jT i x (uo i.im) (cQ x.pc)).1).toArray) (fZ sb i rb cb clock (jT i x (uo i.im) (cQ x.pc)).2 id R) := by
 refine am func342 ntmps342 ?_;refine bj fun c => ?_;refine ah (aC call390 (a23 W0 _ i.im)) ?_;refine ah (cq tN (rT W0 _ sb i rb cb clock x a)) ?_;refine ah (cq CE (yA W0 _ sb i rb cb clock x a b (uo i.im) (cQ x.pc) (dK _))) ?_;refine ar aF ?_;exact aV (.cons (bi dL dr rfl rfl) .nil) ao
theorem a3l (j : CpOk x) (q : i.a < 16) (p : i.b < 16) (h : 23 ≤ i.op ∧ i.op ≤ 27) : sQ W0 343 [pV sb] (fZ sb i rb cb clock x id R) (.agg (cP (rK i x)).toArray) (fZ sb i rb cb clock x id R) := by
 have r : mR i.op < 4294967296 := by grind [E0]
 have k : mR i.op ≠ 0 := by grind [mR]
 obtain ⟨c, g⟩ : ∃ a, mQ (bL x.rl i.a) i.im = a := ⟨_, rfl⟩
 obtain ⟨m, l⟩ : ∃ m, mR i.op = m := ⟨_, rfl⟩
 rw [rK, g, l];rw [l] at r k;refine am func343 ntmps343 ?_;refine bj fun n => ?_;refine gi (b := n) (o' := ag (cP mf) 267) rfl ?_;refine bq [sb] 18 fun e => ?_;refine aj 0 6 e ?_;refine aj 7 5 e ?_;refine ax 12 e (bD (d8 i.im)) ?_;refine aj 14 1 e ?_;refine cg 6 (cq si (qS W0 _ sb i rb cb clock x j i.a q)) fun e => ?_;refine ax 13 e (db rfl rfl (show _ = ((c : Nat) : Int) by rw [← g]; exact d8 _)) ?_;refine cj 15 (ap call391 (a3h W0 _ sb i rb cb clock)) ?_; clear e;rintro _ s ⟨rfl, f⟩;obtain rfl := f.symm;rw [l];refine ⟨aT, fun e => ?_⟩;refine aj 16 2 e ?_;refine aJ ?_;refine aa (bD (cW (by omega))) ?_;refine aa (dT rfl rfl (by omega) (iJ c m)) ?_;refine ai (fun t => ?_) fun t => ?_;refine ah (aC zD (wn 2 c)) ?_;refine ar aF ?_;refine aV (.cons (bi dL dr rfl rfl) .nil) ?_;rw [Qad (by omega)];exact ao;rw [Qaa (by omega)];refine aD rfl (wZ tN rfl (rT W0 _ sb i rb cb clock x j)) ?_;rintro _ s ⟨rfl, f⟩;obtain rfl := f.symm;refine ae rfl (fR sd lc (aP aR (aP aW (aP aW (aP aR (aP iT (aP aR (aP aW (aP aW (aP aW fQ))))))))) (cA rfl aR rfl rfl (Qab rfl) SetL.eq (cA rfl aW rfl rfl (Qab rfl) SetL.eq (cA rfl aR rfl rfl (Qab rfl) SetL.eq (cA rfl aW rfl rfl (Qab rfl) SetL.eq fP))))) ?_;refine aD rfl (dx lc) ?_;rintro _ _ ⟨o, rfl, rfl⟩;refine iW 2 aF ?_;refine cF (fun _ : Unit => True) (fun _ => [(2, pV n), (5, pV o)]) (fun _ => pt n (ag (cP mf) 267) :: pt o (ag (cP (if i.op = 26 ∨ i.op = 27 then ⟨2, cQ x.pc, c, m, false, 0, bL x.rl i.b, 0, 0⟩ else ⟨1, cQ x.pc, c, m, decide (i.op = 24), i.d, 0, 0, 0⟩)) 267) :: fZ sb i rb cb clock x id R) ?_ ?_;refine au 1 ?_;refine gi (b := o) (o' := ag (cP ⟨1, cQ x.pc, c, m, false, 0, 0, 0, 0⟩) 267) rfl ?_;refine aw ?_;refine ai (fun u => ?_) fun u => ?_;refine ah (cq si (qS W0 _ sb i rb cb clock x j i.b p)) ?_;refine ar (iX (by exact rfl : (cP ⟨1, cQ x.pc, c, m, false, 0, 0, 0, 0⟩).set 0 (iQ 2) = cP ⟨2, cQ x.pc, c, m, false, 0, 0, 0, 0⟩)) ?_;refine ar (iX (by exact rfl : (cP ⟨2, cQ x.pc, c, m, false, 0, 0, 0, 0⟩).set 6 (wV (bL x.rl i.b)) = cP ⟨2, cQ x.pc, c, m, false, 0, bL x.rl i.b, 0, 0⟩)) ?_;refine bu () ?_ (he := ?_);trivial;rw [Qad (by omega)];exact IO;refine ai (fun v => ?_) fun v => ?_;refine ah (cq si (qS W0 _ sb i rb cb clock x j i.b p)) ?_;refine ar (iX (by exact rfl : (cP ⟨1, cQ x.pc, c, m, false, 0, 0, 0, 0⟩).set 0 (iQ 2) = cP ⟨2, cQ x.pc, c, m, false, 0, 0, 0, 0⟩)) ?_;refine ar (iX (by exact rfl : (cP ⟨2, cQ x.pc, c, m, false, 0, 0, 0, 0⟩).set 6 (wV (bL x.rl i.b)) = cP ⟨2, cQ x.pc, c, m, false, 0, bL x.rl i.b, 0, 0⟩)) ?_;refine bu () ?_ (he := ?_);trivial;rw [Qad (by omega)];exact IO;refine ai (fun w => ?_) fun w => ?_;refine ar (iX (by exact rfl : (cP ⟨1, cQ x.pc, c, m, false, 0, 0, 0, 0⟩).set 4 (.bool true) = cP ⟨1, cQ x.pc, c, m, true, 0, 0, 0, 0⟩)) ?_;refine ar (iX (by exact rfl : (cP ⟨1, cQ x.pc, c, m, true, 0, 0, 0, 0⟩).set 5 (iQ i.d) = cP ⟨1, cQ x.pc, c, m, true, i.d, 0, 0, 0⟩)) ?_;refine bu () ?_ (he := ?_);trivial;rw [Qaa (by omega), Qah (by omega)];exact IO;refine ar (iX (by exact rfl : (cP ⟨1, cQ x.pc, c, m, false, 0, 0, 0, 0⟩).set 5 (iQ i.d) = cP ⟨1, cQ x.pc, c, m, false, i.d, 0, 0, 0⟩)) ?_
 refine bu () ?_ (he := ?_);trivial;rw [Qaa (by omega), Qal (by omega)];exact IO;intro _ _;refine aw ?_;refine ar aF ?_;exact aV (.cons (bi dL dr rfl rfl) .nil) ao
theorem a3m (d : CpOk x) (g : i.a < 16) (j : i.b < 16) (h : 28 ≤ i.op ∧ i.op ≤ 31) : sQ W0 344 [pV sb] (fZ sb i rb cb clock x id R) (.agg (cP (lq x (if un i.op (bL x.rl i.a) (bL x.rl i.b) then mP x.pc i.im else cQ x.pc)).1).toArray) (fZ sb i rb cb clock (lq x (if un i.op (bL x.rl i.a) (bL x.rl i.b) then mP x.pc i.im else cQ x.pc)).2 id R) := by
 obtain ⟨z, k⟩ : ∃ z, un i.op (bL x.rl i.a) (bL x.rl i.b) = z := ⟨_, rfl⟩
 refine am func344 ntmps344 ?_;refine bj fun l => ?_;refine bq [sb] 25 fun c => ?_;refine aj 0 11 c ?_;refine aj 12 6 c ?_;refine cg 11 (cq si (qS W0 _ sb i rb cb clock x d i.a g)) fun c => ?_;refine cg 18 (cq si (qS W0 _ sb i rb cb clock x d i.b j)) fun c => ?_;refine cj 19 (aC call392 (a21 W0 _ (bL x.rl i.a) (bL x.rl i.b) i.op h)) ?_; clear c;rintro _ m ⟨rfl, e⟩;obtain rfl := e.symm;rw [k];refine ⟨aT, fun c => ?_⟩;refine aj 20 5 c ?_;refine aJ ?_;refine ai (fun f => ?_) fun f => ?_;rw [Qad f];refine ah (cq call394 (LG W0 _ sb i rb cb clock x d)) ?_;refine ah (cq CC (yz W0 _ sb i rb cb clock x d (mP x.pc i.im))) ?_;refine ar aF ?_;exact aV (.cons (bi dL dr rfl rfl) .nil) ao;rw [Qaa f];refine ah (cq tN (rT W0 _ sb i rb cb clock x d)) ?_;refine ah (cq CC (yz W0 _ sb i rb cb clock x d (cQ x.pc))) ?_;refine ar aF ?_;exact aV (.cons (bi dL dr rfl rfl) .nil) ao
theorem a3n (e : CpOk x) (g : i.d < 16) (h : i.a < 16) : sQ W0 345 [pV sb] (fZ sb i rb cb clock x id R) (.agg (cP (jT i x (cQ x.pc) (if i.op = 33 then mQ (bL x.rl i.a) i.im else mP x.pc i.im)).1).toArray) (fZ sb i rb cb clock (jT i x (cQ x.pc) (if i.op = 33 then mQ (bL x.rl i.a) i.im else mP x.pc i.im)).2 id R) := by
 refine am func345 ntmps345 ?_;refine bj fun f => ?_;refine gi (b := f) (o' := ag (cP mf) 267) rfl ?_;refine aw ?_;refine dV 3 (cq call394 (LG W0 _ sb i rb cb clock x e)) ?_;refine cF (fun _ : Unit => True) (fun _ => [(0, pV sb), (2, pV f), (3, wV (if i.op = 33 then mQ (bL x.rl i.a) i.im else mP x.pc i.im))]) (fun _ => pt f (ag (cP mf) 267) :: fZ sb i rb cb clock x id R) ?_ ?_;refine au 10 ?_;refine ai (fun j => ?_) fun j => ?_;refine bq [sb] 15 fun c => ?_;refine aj 0 6 c ?_;refine aj 7 5 c ?_;refine ax 12 c (bD (d8 i.im)) ?_;refine cg 6 (cq si (qS W0 _ sb i rb cb clock x e i.a h)) fun c => ?_;refine ax 13 c (db rfl rfl (d8 _)) ?_;refine aj 14 1 c ?_;refine aJ ?_;refine dj () ?_ ?_ ?_;trivial
 · rw [Qad (by omega)]
   repeat (first | exact bK | refine bc rfl ?_)
 exact IO;refine dj () ?_ ?_ ?_;trivial
 · rw [Qaa (by omega)]
   repeat (first | exact bK | refine bc rfl ?_)
 exact IO;intro _ _;refine aw ?_;refine ah (cq tN (rT W0 _ sb i rb cb clock x e)) ?_;refine ah (cq CE (yA W0 _ sb i rb cb clock x e g (cQ x.pc) (if i.op = 33 then mQ (bL x.rl i.a) i.im else mP x.pc i.im) (dK _))) ?_;refine ar aF ?_;exact aV (.cons (bi dL dr rfl rfl) .nil) ao
theorem a3o (d : CpOk x) : sQ W0 399 [pV sb] (fZ sb i rb cb clock x id R) (.agg (cP ⟨qA i.op, cQ x.pc, 0, 0, false, 0, 0, 0, 0⟩).toArray) (fZ sb i rb cb clock x id R) := by
 refine am func399 ntmps399 ?_;refine ez (dx lc) fun a => ?_;refine au 3 ?_;refine gi (b := a) (o' := ag (cP mf) 267) rfl ?_;refine au 4 ?_;refine cF (fun _ : Unit => True) (fun _ => [(0, pV sb), (2, pV a), (3, iQ ((qA i.op : Nat) : Int))]) (fun _ => pt a (ag (cP mf) 267) :: fZ sb i rb cb clock x id R) ?_ ?_;refine au 16 ?_;refine ai (fun e => ?_) fun e => ?_;refine dj () ?_ ?_ ?_;trivial
 · rw [qA, Qad (by omega)]
   repeat (first | exact bK | refine bc rfl ?_)
 exact IO;refine ai (fun f => ?_) fun f => ?_;refine dj () ?_ ?_ ?_;trivial
 · rw [qA, Qaa (by omega), Qad (by omega)]
   repeat (first | exact bK | refine bc rfl ?_)
 exact IO;refine dj () ?_ ?_ ?_;trivial
 · rw [qA, Qaa (by omega), Qaa (by omega)]
   repeat (first | exact bK | refine bc rfl ?_)
 exact IO;intro _ _;refine aw ?_;refine aD rfl (wZ tN rfl (rT W0 _ sb i rb cb clock x d)) ?_;rintro _ g ⟨rfl, c⟩;obtain rfl := c.symm;refine ae rfl (fR sd lc (aP aR (aP aW (aP aW (aP aR (aP iT (aP aR (aP aW (aP aW (aP aW fQ))))))))) (cA rfl aR rfl rfl (Qab rfl) SetL.eq (cA rfl aW rfl rfl (Qab rfl) SetL.eq fP))) ?_;refine fh (fN dr rfl rfl rfl rfl rfl) ?_;rintro _ _ rfl;refine aL (aH (dE ?_));exact aV (.cons (bi dL dr rfl rfl) .nil) ao
theorem LH (a : CpOk x) (h : i.op = 34 ∨ i.op = 41) : sQ W0 395 [pV sb] (fZ sb i rb cb clock x id R) (.agg (cP (if i.op = 34 then mg 6 0 else mg 8 x.pc)).toArray) (fZ sb i rb cb clock x id R) := by
 refine am func395 ntmps395 ?_;refine bj fun c => ?_;refine ai (fun b => ?_) fun b => ?_;refine ah (ap sh (qJ rb x.rl x.pc a.r.len)) ?_;refine ah (aC zD (wn 8 x.pc)) ?_;refine ar aF ?_;refine aV (.cons (bi dL dr rfl rfl) .nil) ?_;rw [Qaa (by omega)];exact ao;refine ah (aC zD (wn 6 0)) ?_;refine ar aF ?_;refine aV (.cons (bi dL dr rfl rfl) .nil) ?_;rw [Qad (by omega)];exact ao
theorem a3p (a : CpOk x) : sQ W0 396 [pV sb] (fZ sb i rb cb clock x id R) (.agg (cP (lq { x with cs := oV x.cs } (d9 x.cs 2)).1).toArray) (fZ sb i rb cb clock (lq { x with cs := oV x.cs } (d9 x.cs 2)).2 id R) := by
 refine am func396 ntmps396 ?_;refine bj fun b => ?_;refine ah (ap call430 (a2O cb a.cs)) ?_;refine ah (cq CC (yz W0 _ sb i rb cb clock x a (d9 x.cs 2))) ?_;refine ar aF ?_;exact aV (.cons (bi dL dr rfl rfl) .nil) ao
theorem a3q (e : CpOk x) (h : i.d < 16) (c : id < 4) (l : 0 ≤ clock) (m : dQ x.cs = true) (n : Nat) (j : i.im = n) (o : n < 9) : sQ W0 397 [pV sb] (fZ sb i rb cb clock x id R) (.agg (cP (jT i x (oW x.cs id clock.toNat n) (cQ x.pc)).1).toArray) (fZ sb i rb cb clock (jT i x (oW x.cs id clock.toNat n) (cQ x.pc)).2 id R) := by
 obtain ⟨k, d, a, b, p⟩ := i;dsimp only at j h;subst j;refine am func397 ntmps397 ?_;refine bj fun q => ?_;refine bq [sb] 19 fun f => ?_;refine aj 0 13 f ?_;refine cj 13 (ap call338 (Lp cb e.cs c n o clock l)) ?_; clear f;rintro _ r ⟨rfl, g⟩;obtain rfl := g.symm;rw [m, Qad rfl];refine ⟨aT, fun f => ?_⟩;refine aj 14 5 f ?_;refine aJ ?_;refine ah (cq tN (rT W0 _ sb ⟨k, d, a, b, n⟩ rb cb clock x e)) ?_;refine ah (cq CE (yA W0 _ sb ⟨k, d, a, b, n⟩ rb cb clock x e h (oW x.cs id clock.toNat n) (cQ x.pc) (DY e.cs c))) ?_;refine ar aF ?_;exact aV (.cons (bi dL dr rfl rfl) .nil) ao
theorem Fj {W0 R} (a : ∀ A, bC (aQ W0 A) 0 0 kX) i (b : gH i = true) : sQ W0 289 [.agg (fC i).toArray] R (wV (mN i)) R := by
 refine am func289 ntmps289 ?_;refine bz fun c => ?_;refine ah (aC call339 (a3f a i b)) ?_;exact ac ao
theorem a3r (l : ∀ A, bC (aQ W0 A) 0 0 kX) (e : CpOk x) (m : gH i = true) (j : i.a < 16) (o : dQ x.cs = true) (n : Nat) (k : i.im = n) (p : n < 9) : sQ W0 398 [pV sb] (fZ sb i rb cb clock x id R) (.agg (cP (if n ≤ 6 then lq { x with cs := x.cs.set n (kz n (bL x.rl i.a)) } (cQ x.pc) else (mg 1 (mN i), x)).1).toArray) (fZ sb i rb cb clock (if n ≤ 6 then lq { x with cs := x.cs.set n (kz n (bL x.rl i.a)) } (cQ x.pc) else (mg 1 (mN i), x)).2 id R) := by
 obtain ⟨c, d, a, b, s⟩ := i;dsimp only at k j ⊢;subst k;refine am func398 ntmps398 ?_;refine bj fun t => ?_;refine bq [sb] 18 fun f => ?_;refine aj 0 15 f ?_;refine cg 15 (cq si (qS W0 _ sb ⟨c, d, a, b, n⟩ rb cb clock x e a j)) fun f => ?_;refine cg 16 (ap call431 (a2L cb e.cs n (bL x.rl a) p (e.r.at_ a) o)) fun f => ?_;refine aj 17 1 f ?_;refine aJ ?_;refine ai (fun g => ?_) fun g => ?_;have h : ¬ n ≤ 6 := fun q => by rw [Qad q] at g; exact absurd rfl g
 simp only [Qaa h];refine aa (df (pA (vs := fC ⟨c, d, a, b, n⟩) rfl)) ?_;refine ah (aC Oz (Fj l ⟨c, d, a, b, n⟩ m)) ?_;refine ah (aC zD (wn 1 (mN ⟨c, d, a, b, n⟩))) ?_;refine ar aF ?_;exact aV (.cons (bi dL dr rfl rfl) .nil) ao;have h : n ≤ 6 := by
  omega
 simp only [Qad h];refine ah (cq tN (rT W0 _ sb ⟨c, d, a, b, n⟩ rb cb clock x e)) ?_;refine ah (cq CC (yz W0 _ sb ⟨c, d, a, b, n⟩ rb cb clock x e (cQ x.pc))) ?_;refine ar aF ?_;exact aV (.cons (bi dL dr rfl rfl) .nil) ao
theorem pf {f o o'} (b : ∀ a w, (callFunc f a).run Tryz.prog w = .ok (.enter f a) w) (e : o = o') (h : ∀ R, bE Tryz.prog W0 f [pV sb] (fZ sb i rb cb clock x id R) (fun v B => v = .agg (cP o'.1).toArray ∧ B = fZ sb i rb cb clock o'.2 id R)) : Fh W0 sb i rb cb clock x id f o := ⟨b, by rw [e]; exact h⟩
theorem LI {i} (a : gH i = true) (h : i.op = 37 ∨ i.op = 38) : ∃ n : Nat, i.im = n ∧ n < 9 := by
 have := (rJ a).2.2.2.2;rw [du, Qaa (by omega), Qad h] at this;have := Qar this;exact ⟨i.im.toNat, by omega, by omega⟩
theorem a3s (j : ∀ A, bC (aQ W0 A) 0 0 kX) (a : CpOk x) (c : gH i = true) (d : id < 4) (k : 0 ≤ clock) (h : 34 ≤ i.op) (g : ie i.op = true → dQ x.cs = true) : sP W0 346 [pV sb] (fZ sb i rb cb clock x id R) (fun v B => ∃ f, v = .func (.func f) #[pV sb] #[] ∧ B = fZ sb i rb cb clock x id R ∧ Fh W0 sb i rb cb clock x id f (kA id clock.toNat i x)) := by
 obtain ⟨u, l, m, w, o⟩ := rJ c;refine am func346 ntmps346 ?_;refine ai (fun p => ?_) fun p => ?_;refine ac ?_;refine ⟨_, ⟨_, rfl, rfl, pf W0 sb i rb cb clock x id (o' := (if i.op = 34 then mg 6 0 else mg 8 x.pc, x)) call395 ?_ fun R => LH W0 R sb i rb cb clock x id a (by omega)⟩, IO⟩;unfold kA;split;rfl;rw [Qad (by omega)];refine ai (fun q => ?_) fun q => ?_;refine ac ?_;refine ⟨_, ⟨_, rfl, rfl, pf W0 sb i rb cb clock x id (o' := (if i.op = 34 then mg 6 0 else mg 8 x.pc, x)) call395 ?_ fun R => LH W0 R sb i rb cb clock x id a (by omega)⟩, IO⟩;unfold kA;split;rfl;rw [Qad (by omega)];refine ai (fun r => ?_) fun r => ?_;refine ac ?_;refine ⟨_, ⟨_, rfl, rfl, pf W0 sb i rb cb clock x id call396 ?_ fun R => a3p W0 R sb i rb cb clock x id a⟩, IO⟩;rw [kA, Qaa (by omega), Qaa (by omega), Qad (by omega)];refine ai (fun s => ?_) fun s => ?_;refine ac ?_;obtain ⟨n, b, e⟩ := LI c (by omega);refine ⟨_, ⟨_, rfl, rfl, pf W0 sb i rb cb clock x id call397 ?_ fun R => a3q W0 R sb i rb cb clock x id a l d k (g (Qah (by omega))) n b e⟩, IO⟩;rw [kA, Qaa (by omega), Qaa (by omega), Qaa (by omega), Qad (by omega), b, Qae];refine ai (fun t => ?_) fun t => ?_;refine ac ?_;obtain ⟨n, b, e⟩ := LI c (by omega);refine ⟨_, ⟨_, rfl, rfl, pf W0 sb i rb cb clock x id call398 ?_ fun R => a3r W0 R sb i rb cb clock x id j a c m (g (Qah (by omega))) n b e⟩, IO⟩;rw [kA, Qaa (by omega), Qaa (by omega), Qaa (by omega), Qaa (by omega), Qad (by omega), b, Qae];refine ac ?_;refine ⟨_, ⟨_, rfl, rfl, pf W0 sb i rb cb clock x id (o' := (⟨qA i.op, cQ x.pc, 0, 0, false, 0, 0, 0, 0⟩, x)) call399 ?_ fun R => a3o W0 R sb i rb cb clock x id a⟩, IO⟩;rw [kA, Qaa (by omega), Qaa (by omega), Qaa (by omega), Qaa (by omega), Qaa (by omega)]
theorem Bp (m : ∀ A, bC (aQ W0 A) 0 0 kX) (a : CpOk x) (k : gH i = true) (d : id < 4) (n : 0 ≤ clock) (o : ie i.op = true → dQ x.cs = true) : sP W0 290 [pV sb] (fZ sb i rb cb clock x id R) (fun v B => ∃ f, v = .func (.func f) #[pV sb] #[] ∧ B = fZ sb i rb cb clock x id R ∧ Fh W0 sb i rb cb clock x id f (gm id clock.toNat i x)) := by
 obtain ⟨u, c, b, e, p⟩ := rJ k;refine am func290 ntmps290 ?_;refine ai (fun q => ?_) fun q => ?_;refine ac ?_;refine ⟨_, ⟨_, rfl, rfl, pf W0 sb i rb cb clock x id call340 ?_ fun R => a3i W0 R sb i rb cb clock x id a c b e (by omega)⟩, IO⟩;rw [gm, Qad (by omega)];refine ai (fun r => ?_) fun r => ?_;refine ac ?_;refine ⟨_, ⟨_, rfl, rfl, pf W0 sb i rb cb clock x id call341 ?_ fun R => a3j W0 R sb i rb cb clock x id a c b (by omega)⟩, IO⟩;rw [gm, Qaa (by omega), Qad (by omega)];refine ai (fun s => ?_) fun s => ?_;refine ac ?_;refine ⟨_, ⟨_, rfl, rfl, pf W0 sb i rb cb clock x id call342 ?_ fun R => a3k W0 R sb i rb cb clock x id a c⟩, IO⟩;rw [gm, Qaa (by omega), Qaa (by omega), Qad (by omega)];refine ai (fun t => ?_) fun t => ?_;refine ac ?_;refine ⟨_, ⟨_, rfl, rfl, pf W0 sb i rb cb clock x id (o' := (rK i x, x)) call343 ?_ fun R => a3l W0 R sb i rb cb clock x id a b e (by omega)⟩, IO⟩;rw [gm, Qaa (by omega), Qaa (by omega), Qaa (by omega), Qad (by omega)];refine ai (fun g => ?_) fun g => ?_;refine ac ?_;refine ⟨_, ⟨_, rfl, rfl, pf W0 sb i rb cb clock x id call344 ?_ fun R => a3m W0 R sb i rb cb clock x id a b e (by omega)⟩, IO⟩;rw [gm, Qaa (by omega), Qaa (by omega), Qaa (by omega), Qaa (by omega), Qad (by omega)];refine ai (fun h => ?_) fun h => ?_;refine ac ?_;refine ⟨_, ⟨_, rfl, rfl, pf W0 sb i rb cb clock x id call345 ?_ fun R => a3n W0 R sb i rb cb clock x id a c b⟩, IO⟩;rw [gm, Qaa (by omega), Qaa (by omega), Qaa (by omega), Qaa (by omega), Qaa (by omega), Qad (by omega)];refine aD rfl (cM call346 (a3s W0 _ sb i rb cb clock x id m a k d n (by omega) o)) ?_;rintro _ w ⟨f, rfl, j, l⟩;obtain rfl := j.symm;rw [show kA id clock.toNat i x = gm id clock.toNat i x by rw [gm, Qaa (by omega), Qaa (by omega), Qaa (by omega), Qaa (by omega), Qaa (by omega), Qaa (by omega)]] at l;refine aw ?_;refine ac ?_;exact ⟨_, ⟨f, rfl, rfl, l⟩, IO⟩
theorem a3t {W0 R} cb cs id (h : CsOk cs) (a : id < 4) : sQ W0 286 [pV cb] (pt cb (dZ cs id) :: R) (.bool false) (pt cb (dZ cs id) :: R) := by
 refine am func286 ntmps286 ?_;refine ah (ap call338 (Lp cb h a 0 (by decide) 0 (by decide))) ?_;refine ac ?_;refine aG ?_;cases dQ cs <;> rfl
theorem Fl (n : ∀ A, bC (aQ W0 A) 0 0 kX) (m : CpOk x) (o : gH i = true) (h : id < 4) (v : 0 ≤ clock) : sQ W0 212 [.agg (fC i).toArray, pV rb, pV cb, iQ clock] (pt rb (dD x.rl x.pc) :: pt cb (dZ x.cs id) :: R) (.tuple #[.agg (cP (jU id clock.toNat i x).1).toArray, iQ 0]) (pt rb (dD (jU id clock.toNat i x).2.rl (jU id clock.toNat i x).2.pc) :: pt cb (dZ (jU id clock.toNat i x).2.cs id) :: R) := by
 obtain ⟨t, b⟩ : ∃ k, dQ x.cs = k := ⟨_, rfl⟩
 obtain ⟨w, c⟩ : ∃ k, ie i.op = k := ⟨_, rfl⟩
 have D : ∀ z : Bool, (z && false) = false := fun z => by cases z <;> rfl
 rw [jU, b, c];refine am func212 ntmps212 ?_;refine bz fun E => ?_;refine bj fun F => ?_;refine ah (ap Oy (EL rb x.rl x.pc 0 m.r.len (by decide))) ?_;refine ai (fun C => ?_) fun C => ?_;exact absurd rfl C;refine ah (ap call83 (Lq cb m.cs)) ?_;refine aa (xk iC aW GA rfl) ?_;refine aa (vj Tryz.eqGuardType73 rfl rfl (AM (i := Tryz.t38) (ms := x.cs.map Int.ofNat) (ns := [0, 0, 0, 0, 0, 0, 0]) iC (by kernel_rfl) (by kernel_rfl) tJ mw (by rw [List.map_map]; rfl) rfl (by rw [Qax]; exact m.cs.len) rfl)) ?_;refine bO (fun u => ?_) fun u => ?_;refine dV 3 (ap call286 (a3t cb x.cs id m.cs h)) ?_;refine aA rfl (fun y => ?_) fun y => ?_
 first | exact absurd y (by decide) | (cases y)
 refine aw ?_;refine ah (aC GZ (Bm n i)) ?_;refine aA rfl (fun p => ?_) fun p => ?_;rw [o] at p; exact absurd p (by decide);refine aw ?_;refine ah (aC call287 (LF i.op)) ?_;rw [c];refine bO (fun a => ?_) fun a => ?_;refine ah (ap CF (yw cb m.cs)) ?_;rw [show qR x.cs = [.bool (ic x.cs), iQ (gJ x.cs), .bool (!t)] by rw [qR, b]];refine aa (EJ rfl Gs rfl nk rfl) ?_;refine ai (fun s => ?_) fun s => ?_;refine ah (aC Oz (Fj n i o)) ?_;refine ah (aC zD (wn 7 (mN i))) ?_;refine ar aF ?_;refine aV (.cons (bi dL dr rfl rfl) (.cons (aS rfl) .nil)) ?_;rw [Qad (by grind)];exact ao;have d : ie i.op = true → dQ x.cs = true := fun q => by
  rw [c] at q;rw [b]
  first | (simpa using s) | (subst q; exact absurd rfl a) | exact absurd q a
 have e : (w && !t) = false := by
  grind
 rw [e, Qaa (by decide)];refine aa (fR Cd H0 (aP pw (aP tE (aP tF (aP aR fQ)))) (kh rfl pw rfl rfl (Qab rfl) SetRL.eq (cA rfl tE rfl rfl (Qab rfl) SetL.eq (cA rfl tF rfl rfl (Qab rfl) SetL.eq (cA rfl aR rfl rfl (Qab rfl) SetL.eq fP))))) ?_;refine bz fun j => ?_;refine aD rfl (cM H1 (Bp W0 _ j i rb cb clock x id n m o h v d)) ?_;rintro _ B ⟨f, rfl, g, l⟩;obtain rfl := g.symm;refine aw ?_;refine ah (kj sG (je (us := [pV j]) (cs := []) rfl l.1 rfl (l.2 _))) ?_;refine ar aF ?_;exact aV (.cons (bi dL dr rfl rfl) (.cons (aS rfl) .nil)) ao;have d : ie i.op = true → dQ x.cs = true := fun q => by
  rw [c] at q;rw [b]
  first | (simpa using s) | (subst q; exact absurd rfl a) | exact absurd q a
 have e : (w && !t) = false := by
  grind
 rw [e, Qaa (by decide)];refine aa (fR Cd H0 (aP pw (aP tE (aP tF (aP aR fQ)))) (kh rfl pw rfl rfl (Qab rfl) SetRL.eq (cA rfl tE rfl rfl (Qab rfl) SetL.eq (cA rfl tF rfl rfl (Qab rfl) SetL.eq (cA rfl aR rfl rfl (Qab rfl) SetL.eq fP))))) ?_;refine bz fun j => ?_;refine aD rfl (cM H1 (Bp W0 _ j i rb cb clock x id n m o h v d)) ?_;rintro _ B ⟨f, rfl, g, l⟩;obtain rfl := g.symm;refine aw ?_;refine ah (kj sG (je (us := [pV j]) (cs := []) rfl l.1 rfl (l.2 _))) ?_;refine ar aF ?_;exact aV (.cons (bi dL dr rfl rfl) (.cons (aS rfl) .nil)) ao;refine ah (aC GZ (Bm n i)) ?_;refine aA rfl (fun p => ?_) fun p => ?_;rw [o] at p; exact absurd p (by decide);refine aw ?_;refine ah (aC call287 (LF i.op)) ?_;rw [c];refine bO (fun a => ?_) fun a => ?_;refine ah (ap CF (yw cb m.cs)) ?_;rw [show qR x.cs = [.bool (ic x.cs), iQ (gJ x.cs), .bool (!t)] by rw [qR, b]];refine aa (EJ rfl Gs rfl nk rfl) ?_;refine ai (fun s => ?_) fun s => ?_;refine ah (aC Oz (Fj n i o)) ?_;refine ah (aC zD (wn 7 (mN i))) ?_;refine ar aF ?_;refine aV (.cons (bi dL dr rfl rfl) (.cons (aS rfl) .nil)) ?_;rw [Qad (by grind)];exact ao;have d : ie i.op = true → dQ x.cs = true := fun q => by
  rw [c] at q;rw [b]
  first | (simpa using s) | (subst q; exact absurd rfl a) | exact absurd q a
 have e : (w && !t) = false := by
  grind
 rw [e, Qaa (by decide)];refine aa (fR Cd H0 (aP pw (aP tE (aP tF (aP aR fQ)))) (kh rfl pw rfl rfl (Qab rfl) SetRL.eq (cA rfl tE rfl rfl (Qab rfl) SetL.eq (cA rfl tF rfl rfl (Qab rfl) SetL.eq (cA rfl aR rfl rfl (Qab rfl) SetL.eq fP))))) ?_;refine bz fun j => ?_;refine aD rfl (cM H1 (Bp W0 _ j i rb cb clock x id n m o h v d)) ?_;rintro _ B ⟨f, rfl, g, l⟩;obtain rfl := g.symm;refine aw ?_;refine ah (kj sG (je (us := [pV j]) (cs := []) rfl l.1 rfl (l.2 _))) ?_;refine ar aF ?_;exact aV (.cons (bi dL dr rfl rfl) (.cons (aS rfl) .nil)) ao;have d : ie i.op = true → dQ x.cs = true := fun q => by
  rw [c] at q;rw [b]
  first | (simpa using s) | (subst q; exact absurd rfl a) | exact absurd q a
 have e : (w && !t) = false := by
  grind
 rw [e, Qaa (by decide)];refine aa (fR Cd H0 (aP pw (aP tE (aP tF (aP aR fQ)))) (kh rfl pw rfl rfl (Qab rfl) SetRL.eq (cA rfl tE rfl rfl (Qab rfl) SetL.eq (cA rfl tF rfl rfl (Qab rfl) SetL.eq (cA rfl aR rfl rfl (Qab rfl) SetL.eq fP))))) ?_;refine bz fun j => ?_;refine aD rfl (cM H1 (Bp W0 _ j i rb cb clock x id n m o h v d)) ?_;rintro _ B ⟨f, rfl, g, l⟩;obtain rfl := g.symm;refine aw ?_;refine ah (kj sG (je (us := [pV j]) (cs := []) rfl l.1 rfl (l.2 _))) ?_;refine ar aF ?_;exact aV (.cons (bi dL dr rfl rfl) (.cons (aS rfl) .nil)) ao
end
def tf (r : Int) (a0 a1 a2 : Bool) : Int :=
  let x0 := e9 .i64 r 8
  let x1 := if e9 .i64 r 4 ≠ 0 ∧ a0 = true then lG .i64 x0 4 else x0
  let x2 := if e9 .i64 r 1 ≠ 0 ∧ a1 = true then lG .i64 x1 1 else x1
  if e9 .i64 r 2 ≠ 0 ∧ a2 = true then lG .i64 x2 2 else x2
theorem a3u pg r p : iA pg r p 3 = tf r (decide (fp pg p 0 = 0)) (decide (fp pg p 1 = 0)) (decide (fp pg p 2 = 0)) := by
 grind [iA, tf, qQ]
theorem a3v : ∀ n : Nat, n < 16 → ∀ a b c, (0 ≤ tf n a b c ∧ tf n a b c < 16) ∧ (eE (tf n a b c) 1 = true → eE n 1 = true ∧ b = true) ∧ (eE (tf n a b c) 2 = true → eE n 2 = true ∧ c = true) ∧ (eE (tf n a b c) 4 = true → eE n 4 = true ∧ a = true) ∧ (eE (tf n a b c) 8 = true → eE n 8 = true) := by
 decide +kernel
theorem a3w pg (n : Nat) (d : n < 16) p : (0 ≤ iA pg n p 3 ∧ iA pg n p 3 < 16) ∧ (∀ k, jw k = true → eE (iA pg n p 3) (iK k) = true → fp pg p k = 0) ∧ ∀ c, c = 1 ∨ c = 2 ∨ c = 4 ∨ c = 8 → eE (iA pg n p 3) c = true → eE n c = true := by
 obtain ⟨e, f, g, h, i⟩ := a3v n d (decide (fp pg p 0 = 0)) (decide (fp pg p 1 = 0)) (decide (fp pg p 2 = 0));rw [a3u];refine ⟨e, fun k b a => ?_, fun c j a => ?_⟩;have b := Qar b;rcases b with rfl | rfl | rfl;exact Qar (h a).2;exact Qar (f a).2;exact Qar (g a).2;grind
theorem a3x {a b} (h : a / 64 = b / 64) : a / 1024 = b / 1024 := by omega
theorem a3y {fr pg root va va'} (h : WkOkM fr pg root va) (c : va' < 16384) (a : va' / 64 = va / 64) : cn fr pg root va' = cn fr pg root va ∧ eK fr pg va' root = eK fr pg va root := by
 have d := a3x a;have b : eK fr pg va' root = eK fr pg va root := by grind [eK]
 have e : jj fr pg va' root = jj fr pg va root := by grind [jj]
 have f : ∀ s, kO fr pg va' root s = kO fr pg va root s := fun s => by unfold kO; rw [d]
 refine ⟨?_, b⟩;rw [cn, cn, Qad c, Qad h.lim, e, h.rb, Qad rfl, Qad rfl];simp only [fB];rw [b, f];unfold pJ;rw [a]
theorem a3z {fr pg root va} (h : WkOkM fr pg root va) (k : aK pg (cn fr pg root va).p = true) :
    LOk fr pg 0 ⟨e8 root va, ((cn fr pg root va).p, (bF pg (cn fr pg root va).p).1, iA pg (cn fr pg root va).r (cn fr pg root va).p 3), (cn fr pg root va).root, (cn fr pg root va).leaf⟩ := by
 obtain ⟨s, l⟩ : ∃ s, cn fr pg root va = s := ⟨_, rfl⟩
 have b := h.eq;rw [l] at b k ⊢;have g : ∃ n : Nat, s.r = (n : Int) ∧ n < 16 := ⟨nY (dY fr pg (eK fr pg va root) (va / 64)), by rw [b], by unfold nY; split; decide; exact I7 _⟩
 obtain ⟨n, g, d⟩ := g;obtain ⟨m, o, q⟩ := a3w pg n d s.p;rw [← g] at m o q;have i : s.on = true := by
  rw [b];have t := h.lf;unfold ny at t;show nX _ = true;unfold nX;split at t;omega;grind [rE]
 have e : s.root = root := by rw [b]
 have f : s.leaf = eK fr pg va root := by rw [b]
 refine ⟨⟨?_, ?_⟩, ⟨k, rfl⟩, o, m, fun _ _ a u v => ?_⟩;show 0 ≤ s.root ∧ s.root < 8;rw [e]; exact (qw.1 (Bi.1 h.rb).1).1;show 0 ≤ s.leaf ∧ s.leaf < 8;rw [f]; exact (qw.1 h.lt).1;have j : a / 64 = va / 64 := by
  have : ((a / 64 : Nat) : Int) = ((va / 64 : Nat) : Int) := v;omega
 obtain ⟨w, x⟩ := a3y h u j;show WkOkM fr pg root a ∧ root = s.root ∧ eK fr pg a root = s.leaf ∧ (cn fr pg root a).on = true ∧ (cn fr pg root a).p = s.p ∧ ∀ c, c = 1 ∨ c = 2 ∨ c = 4 ∨ c = 8 → eE (iA pg s.r s.p 3) c = true → eE (cn fr pg root a).r c = true;rw [w, x, l];refine ⟨Bj (by grind), e.symm, f.symm, i, rfl, fun c y z => ?_⟩;exact q c y z
theorem MOk.fill {fr pg L T T'} (h : MOk fr pg 0 L T) {k e r l} room now (c : LOk fr pg 0 ⟨k, e, r, l⟩)
    (d : ∀ y ∈ T', y ∈ om room now k (lu k e r l L).e (kW (mo L r l) T) ∧ (kU y.key (mp k e r l L)).isSome = true) : MOk fr pg 0 (mp k e r l L) T' := by
 refine ⟨h.F, by decide, h.P, h.pl, (h.ti.fill k e r l room now).sub' fun y f => QaD.2 (d y f), fun x b => ?_⟩;rw [EU k e r l L h.ti.len] at b;rcases QaY.1 b with q | q;obtain ⟨z, a, rfl⟩ := Qbd.1 q;have := h.ln z (ET a).1;unfold dM; split;exact this.nar;exact this;obtain rfl : x = lu k e r l L := by simpa using q
 rcases EV k e r l L with z | z;grind;rw [z]; exact c.nar
theorem a3A {its T : List It} {now} l : ∀ {its T : List It}, Rep its now T → Rep (kW l its) now (kW l T) := by
 induction l with
 | nil => exact fun h => h
 | cons p l a => exact fun h => a (h.nar p)
theorem LJ l : ∀ T, (kW l T).length = T.length := by
 induction l with
 | nil => exact fun _ => rfl
 | cons p l a => exact fun T => (a _).trans (Qax _)
theorem a3B l p T : kW (l ++ [p]) T = (kW l T).map (jE p) := by simp [kW, List.foldl_append]
theorem a3C l : ∀ {T : List It}, (∀ y ∈ T, i64 y.er) → ∀ y ∈ kW l T, i64 y.er := by
 induction l with
 | nil => exact fun h => h
 | cons p l a =>
  intro T h;refine a fun y b => ?_;obtain ⟨z, c, rfl⟩ := Qbd.1 b;exact a1v (h z c)
theorem MOk.er {fr pg d L T} (h : MOk fr pg d L T) {its now} (a : Rep its now T) : ∀ y ∈ its, i64 y.er := fun y b => by
 obtain ⟨x, c, _, e⟩ := h.ti.sub y (a.perm.mem_iff.1 b);have := (h.ln x c).r;have f : y.er = x.e.2.2 := by rw [e]; rfl
 rw [f];exact ⟨by omega, by omega⟩
theorem MOk.ei {fr pg d L T} (h : MOk fr pg d L T) : ∀ x ∈ L, i64 x.e.2.2 := fun x a => by
 have := (h.ln x a).r;exact ⟨by omega, by omega⟩
theorem a3D W0 R (hK : ∀ A, bC (aQ W0 A) 1 0 j9) ba bm pv bt bs ps pm on root user va (u : va < 4294967296) kind its room now T L fr pg (hR : Rep its now T) (hT : T.length ≤ room) (hr : room ≤ 4) (hn : now < 1000000) (h : MOk fr pg 0 L T) (hw : WkOkM fr pg root va) (hp : aK pg (cn fr pg root va).p = true) o fast : sP W0 383 [pQ ba, .agg #[iQ (cn fr pg root va).p, iQ (bF pg (cn fr pg root va).p).1, iQ o, .bool fast]] (pt ba (iR bm on root user va kind) :: pt bm (cD pv bt bs) :: aU bt (its, cX room now) :: bG bs L :: fA pv ps pm 0 fr pg R) (fun v B => v = .tuple #[] ∧ ∃ K Q L' C, Rep K C Q ∧ Q.length ≤ room ∧ MOk fr pg 0 L' Q ∧ C ≤ now + 1 ∧ (∃ x ∈ L', x.k = e8 root va ∧ (x.e.2.2 = iA pg (cn fr pg root va).r (cn fr pg root va).p 3 ∨ x.e.2.2 = io (iA pg (cn fr pg root va).r (cn fr pg root va).p 3))) ∧ B = pt ba (iR bm on root user va kind) :: pt bm (cD pv bt bs) :: aU bt (K, cX room C) :: bG bs L' :: fA pv ps pm 0 fr pg R) := by
 have w := a3z hw hp;obtain ⟨s, S⟩ : ∃ s, cn fr pg root va = s := ⟨_, rfl⟩
 rw [S] at w hp ⊢;obtain ⟨f, hf⟩ : ∃ f, (bF pg s.p).1 = f := ⟨_, rfl⟩
 obtain ⟨t, I⟩ : ∃ g, iA pg s.r s.p 3 = g := ⟨_, rfl⟩
 rw [hf, I] at w;rw [hf, I];have x1 : i64 t := by
  have : 0 ≤ t ∧ t < 16 := w.r;exact ⟨by omega, by omega⟩
 have x2 : uH s.root = true := Qah w.own.1;have x3 : uH s.leaf = true := Qah w.own.2;have x4 := h.ti.len;have M := h.ti.fill (e8 root va) (s.p, f, t) s.root s.leaf room now;have D : kU (e8 root va) (mp (e8 root va) (s.p, f, t) s.root s.leaf L) = some (lu (e8 root va) (s.p, f, t) s.root s.leaf L) := by
  have hm : lu (e8 root va) (s.p, f, t) s.root s.leaf L ∈ mp (e8 root va) (s.p, f, t) s.root s.leaf L := by grind [EU]
  have := EW M.keys hm
  rwa [Bc] at this
 have U := fun Q q => h.fill (T' := Q) room now w q;have V : (lu (e8 root va) (s.p, f, t) s.root s.leaf L).e.2.2 = t ∨ (lu (e8 root va) (s.p, f, t) s.root s.leaf L).e.2.2 = io t := by
  rcases EV (e8 root va) (s.p, f, t) s.root s.leaf L with q | q;grind;rw [q]; exact .inr rfl
 obtain ⟨N, J⟩ : ∃ l, mp (e8 root va) (s.p, f, t) s.root s.leaf L = l := ⟨_, rfl⟩
 obtain ⟨z, hz⟩ : ∃ z, lu (e8 root va) (s.p, f, t) s.root s.leaf L = z := ⟨_, rfl⟩
 obtain ⟨j, W⟩ : ∃ l, mo L s.root s.leaf = l := ⟨_, rfl⟩
 rw [J, hz] at D;rw [hz] at V;have X := Be D;rw [J, hz, W] at U;rw [J] at M;have x5 := M.len;have xk : j.length ≤ 2 := by
  grind [mo]
 have x6 := fun l => a3A (its := its) (T := T) l hR;have x7 := fun l => LJ l its;have x8 := fun l => LJ l T;have x9 := fun l => a3C l (h.er hR);have xl := hR.length;refine am func383 ntmps383 ?_;refine ez (kg rfl) fun b3 => ?_;refine au 11 ?_;refine cF (fun y : Nat => True) (fun y => [(0, pQ ba), (3, pQ b3), (4, pQ bm), (5, pQ y)]) (fun y => pt b3 (ag [iQ s.p, iQ f, iQ o, .bool fast] 238) :: pt y (ag (qx s) 418) :: pt ba (iR bm on root user va kind) :: pt bm (cD pv bt bs) :: aU bt (its, cX room now) :: bG bs L :: fA pv ps pm 0 fr pg R) ?_ ?_;refine bq [ba, bm] 16 fun b => ?_;refine aj 0 13 b ?_;refine fG (is := [13, 14]) (by kernel_rfl) rfl ⟨?_, ?_, trivial⟩;refine dy (cM O9 (DT pv ps pm 0 fr pg h.P h.F root va u)) ?_; clear b;rintro _ G ⟨rfl, d⟩;subst d;rw [S];refine ⟨aT, fun b => ?_⟩;refine cj 14 (dx Gy) ?_; clear b;rintro _ _ ⟨y, rfl, rfl⟩;refine ⟨aT, fun b => ?_⟩;refine cp 15 aF fun b => ?_;refine aJ ?_;exact bu y trivial;skip;refine dy (dx Gy) ?_; clear b;rintro _ _ ⟨y, rfl, rfl⟩;refine ⟨aT, fun b => ?_⟩;refine cj 13 (cM O9 (DT pv ps pm 0 fr pg h.P h.F root va u)) ?_; clear b;rintro _ G ⟨rfl, d⟩;subst d;rw [S];refine ⟨aT, fun b => ?_⟩;refine cp 15 aF fun b => ?_;refine aJ ?_;exact bu y trivial;intro y _;refine cF (fun H : Nat => True) (fun H => [(0, pQ ba), (3, pQ b3), (4, pQ bm), (5, pQ y), (6, pQ H)]) (fun H => pt H (ag [iQ s.p, iQ f, iQ t] 49) :: pt y (ag (qx s) 418) :: pt ba (iR bm on root user va kind) :: pt bm (cD pv bt bs) :: aU bt (its, cX room now) :: bG bs L :: fA pv ps pm 0 fr pg R) ?_ ?_;refine bq [b3, y] 11 fun b => ?_;refine aj 0 6 b ?_;refine ax 6 b (df (ym (us := [.bool s.on, iQ s.r, iQ s.p]) (ws := [iQ s.fault, iQ s.root, iQ s.leaf]) (jN (k := 1) rfl) rfl)) ?_;refine fG (is := [7, 9]) (by kernel_rfl) rfl ⟨?_, ?_, trivial⟩;refine dy (cM call422 (Ll hK bm pv bt bs ps pm 0 s.on s.r s.p pg h.P)) ?_; clear b;rintro _ G ⟨rfl, d⟩;subst d;rw [I];refine ⟨aT, fun b => ?_⟩;refine aj 8 1 b ?_;refine cj 9 (dx oG) ?_; clear b;rintro _ _ ⟨H, rfl, rfl⟩;refine ⟨aT, fun b => ?_⟩;refine cp 10 aF fun b => ?_;refine aJ ?_;exact bu H trivial;skip;refine dy (dx oG) ?_; clear b;rintro _ _ ⟨H, rfl, rfl⟩;refine ⟨aT, fun b => ?_⟩;refine cj 7 (cM call422 (Ll hK bm pv bt bs ps pm 0 s.on s.r s.p pg h.P)) ?_; clear b;rintro _ G ⟨rfl, d⟩;subst d;rw [I];refine ⟨aT, fun b => ?_⟩;refine aj 8 1 b ?_;refine cp 10 aF fun b => ?_;refine aJ ?_;exact bu H trivial;intro H _;refine aw ?_;refine bq [bm, ba, H, y] 17 fun b => ?_;refine aj 0 5 b ?_;refine aj 6 5 b ?_;refine cg 5 (ap tM (rS ba bm on root user va u kind)) fun b => ?_;refine cj 11 (ap call423 (a2x bs L x4 h.ei (e8 root va) (s.p, f, t) x1 s.root s.leaf x2 x3)) ?_; clear b;rintro _ G ⟨af, cf, rfl, d⟩;subst d;rw [J, W];refine ⟨aT, fun b => ?_⟩;refine aj 12 5 b ?_;refine aJ ?_;refine ai (fun c5 => ?_) fun c5 => ?_;exact absurd rfl c5;refine fM (fun i : Nat => i ≤ j.length) (fun i => [(0, pQ ba), (4, pQ bm), (57, .slice af j.length cf), (58, iQ (j.length : Nat)), (59, iQ i)]) (fun i => pt ba (iR bm on root user va kind) :: pt bm (cD pv bt bs) :: aU bt (kW (j.take i) its, cX room now) :: bG bs N :: osl 3 1 (.slice af j.length cf) (j.flatMap iI) :: fA pv ps pm 0 fr pg R) (fun i => j.length - i) 0 ?_ ?_ ?_ ?_
 omega
 · repeat (first | exact bK | refine bc rfl ?_)
 rw [show kW (j.take 0) its = its from rfl];exact IO;intro i hi;refine aw ?_;refine aA rfl (fun c7 => ?_) fun c7 => ?_;refine au 5 ?_;have O : i < j.length := by omega
 refine m9 (E := 3) (sz := 1) (a := af) (c := cf) (n := j.length) iI j (fun _ => rfl) (by decide) rfl (fun S => ?_);obtain ⟨g, o, xa, hc⟩ := S.at_ O;obtain ⟨q, hq⟩ : ∃ q, j[i] = q := ⟨_, rfl⟩
 have xb : j.take (i + 1) = j.take i ++ [q] := by rw [Qan O, hq]
 have xc : kW (j.take (i + 1)) its = (kW (j.take i) its).map (jE q) := by rw [xb, a3B]
 have xm := x7 (j.take i);have xd := x9 (j.take i);rw [hq] at hc;refine aw ?_;refine aa (eB ek aR rfl xa rfl rfl O (by first | exact Qac _ | rfl)) ?_;refine aa (aE (bC.weak hc 0 _ rfl)) ?_;refine ah (ap call424 (a1y bt (kW (j.take i) its) (iQ room) (iQ now) q (by omega) xd)) ?_;refine aa bY ?_;refine bR (i + 1) ?_ (he := ?_);omega;rw [xc];exact IO;obtain rfl : i = j.length := by omega
 have Y := x6 (j.take j.length);have xe := x8 (j.take j.length);rw [Qby] at Y xe ⊢;refine au 6 ?_;refine cF (fun m : Nat => True) (fun m => [(0, pQ ba), (4, pQ bm), (11, pQ m), (12, .bool true)]) (fun m => pt m (ag (mZ (td (some z))) 49) :: pt ba (iR bm on root user va kind) :: pt bm (cD pv bt bs) :: aU bt (kW j its, cX room now) :: bG bs N :: fA pv ps pm 0 fr pg R) ?_ ?_;refine bq [bm, ba] 13 fun b => ?_;refine aj 0 5 b ?_;refine fG (is := [5, 10]) (by kernel_rfl) rfl ⟨?_, ?_, trivial⟩;refine dy (ap tM (rS ba bm on root user va u kind)) ?_; clear b;rintro _ G ⟨rfl, d⟩;obtain rfl := d.symm;refine ⟨aT, fun b => ?_⟩;refine fG (is := [6, 10]) (by kernel_rfl) rfl ⟨?_, ?_, trivial⟩;refine dy (ap v8 (tc bs N (by omega) (e8 root va))) ?_; clear b;rintro _ G ⟨rfl, d⟩;subst d;rw [te, D];refine ⟨aT, fun b => ?_⟩;refine aj 7 3 b ?_;refine cj 10 (dx oG) ?_; clear b;rintro _ _ ⟨m, rfl, rfl⟩;refine ⟨aT, fun b => ?_⟩;refine cp 11 aF fun b => ?_;refine aj 12 1 b ?_;refine aJ ?_;exact bu m trivial;skip;refine dy (dx oG) ?_; clear b;rintro _ _ ⟨m, rfl, rfl⟩;refine ⟨aT, fun b => ?_⟩;refine cj 6 (ap v8 (tc bs N (by omega) (e8 root va))) ?_; clear b;rintro _ G ⟨rfl, d⟩;subst d;rw [te, D];refine ⟨aT, fun b => ?_⟩;refine aj 7 3 b ?_;refine cp 11 aF fun b => ?_;refine aj 12 1 b ?_;refine aJ ?_;exact bu m trivial;skip;refine dy (dx oG) ?_; clear b;rintro _ _ ⟨m, rfl, rfl⟩;refine ⟨aT, fun b => ?_⟩;refine cg 5 (ap tM (rS ba bm on root user va u kind)) fun b => ?_;refine cj 6 (ap v8 (tc bs N (by omega) (e8 root va))) ?_; clear b;rintro _ G ⟨rfl, d⟩;subst d;rw [te, D];refine ⟨aT, fun b => ?_⟩;refine aj 7 3 b ?_;refine cp 11 aF fun b => ?_;refine aj 12 1 b ?_;refine aJ ?_;exact bu m trivial;intro m _;refine aw ?_;refine bq [bm, ba, m] 8 fun b => ?_;refine aj 0 5 b ?_;refine aj 6 1 b ?_;refine cg 5 (ap tM (rS ba bm on root user va u kind)) fun b => ?_;refine cj 7 (ap call382 (Kq bt (kW j its) room now (kW j T) (e8 root va) z.e Y (by omega) hr hn)) ?_; clear b;rintro _ G ⟨rfl, Z, d, xf⟩;subst d;have xg := Kp (now := now) (k := e8 root va) (e := z.e) (show (kW j T).length ≤ room by omega);refine ⟨aT, fun b => ?_⟩;refine aJ ?_;refine aD rfl (cM call425 (a2F bm pv bt bs Z (iQ room) (iQ ((now + 1 : Nat) : Int)) (now + 1) room _ N xf xg hr x5)) ?_;rintro _ G ⟨rfl, x0, T3, d, xh, xi, xj⟩;subst d;refine aw ?_;refine bX (.inr rfl) .nil ?_;exact ⟨_, ⟨rfl, x0, T3, N, now + 1, xh, xi, U T3 xj, by omega, ⟨z, X.1, X.2, V⟩, rfl⟩, IO⟩
theorem Fo k va : (64 * k + va % 64) / 64 = k ∧ (64 * k + va % 64) % 64 = va % 64 := by omega
structure FnOk (fr : List aB) (pg : List Pl) (root : Int) (user : Bool) (va : Nat) (kind : Int) : Prop where
  wk : WkOkM fr pg root va
  th : aK pg (cn fr pg root va).p = true
  P : eY oQ fr pg true root user va kind = (cn fr pg root va).p
  F : eY mc fr pg true root user va kind = (bF pg (cn fr pg root va).p).1
  O : eY md fr pg true root user va kind = ((va % 64 : Nat) : Int)
theorem LK {fr pg root user va kind} (h : fI fr pg true root user va kind = 0) : FnOk fr pg root user va kind := by
 obtain ⟨s, a⟩ : ∃ s, cn fr pg root va = s := ⟨_, rfl⟩
 obtain ⟨k, d, e⟩ := xz fr pg root va;unfold fI at h;rw [Qad rfl, a] at h;by_cases f : s.fault ≠ 0;omega;rw [Qaa f] at h;by_cases b : oR s kind user = true
 case neg => rw [Qaa b] at h; exact absurd h (by decide)
 rw [Qad b] at h;rw [a] at d;have i : kv s va = 64 * k + va % 64 := by rw [kv, d]; rfl
 obtain ⟨j, l⟩ := Fo k va;have c : aK pg s.p = true := by
  grind [dB, fp]
 have m : ∀ g, eY g fr pg true root user va kind = g fr.length pg (kv s va) 1 kind := fun g => by
  unfold eY;rw [Qad rfl, a, Qaa f, Qad b]
 refine ⟨Bj (by grind), by rw [a]; exact c, ?_, ?_, ?_⟩;grind [oQ];grind [mc];grind [md]
theorem a3E {fr pg L T} (h : MOk fr pg 0 L T) {x} (y : x ∈ L) {root user va kind} (z : va < 16384) (j : x.k = e8 root va) (l : pd x.e kind user = true) :
    fI fr pg true root user va kind = 0 ∧ eY oQ fr pg true root user va kind = x.e.1 ∧ eY mc fr pg true root user va kind = x.e.2.1 ∧ eY md fr pg true root user va kind = (va % 64 : Nat) := by
 have d := h.ln x y;obtain ⟨m, I, J, n, o, p⟩ := d.wk (by simp) (by simp) va z (by rw [j]; rfl);have A : x.k.1 = root := by rw [j]; rfl
 rw [A] at m n o p;obtain ⟨s, f⟩ : ∃ s, cn fr pg root va = s := ⟨_, rfl⟩
 obtain ⟨k, c, q⟩ := xz fr pg root va;have B : s.fault = 0 := by rw [← f, m.eq]
 rw [f] at n o p c;have g : kv s va = 64 * k + va % 64 := by grind [kv]
 obtain ⟨C, K⟩ := Fo k va;have a : x.e.1 = (k : Int) := by omega
 simp only [pd, Qao, Bool.and_true] at l;obtain ⟨r, D, M⟩ := l;have E : iK kind = 1 ∨ iK kind = 2 ∨ iK kind = 4 ∨ iK kind = 8 := by
  unfold iK;rcases Qar r with rfl | rfl | rfl;omega;omega;omega
 have F : oR s kind user = true := by
  grind [oR]
 have b := d.at_.1;rw [a] at b;have t : k < 12 := by
  simp only [aK, Qao] at b;obtain ⟨i, N, G⟩ := kM b.1;omega
 have O : dB fr.length pg (kv s va) 1 kind = 0 := by
  unfold dB;rw [g, C, Qad (by grind [en]), Qad (by omega), Qad (by rw [← a]; exact d.al kind r D), Qad (h.pl.rng _ b)]
 have u : fI fr pg true root user va kind = 0 := by
  grind [fI]
 obtain ⟨_, _, v, w, H⟩ := LK u;rw [f, c] at v w;exact ⟨u, by rw [v, a], by rw [w, ← d.at_.2, a], H⟩
theorem a3F {S b off k us vs} (h : bC S b off vs) (e : (vs.drop k).take us.length = us) : bC S b (off + k) us := fun i v a => by
 have c := (QbS.1 a).1
 have := h (k + i) v (by
   rw [← e, List.getElem?_take] at a;rw [Qad c, Qcm] at a
   exact a)
 rwa [← QbY] at this
theorem a3G (i : ∀ A, bC (aQ W0 A) 1 0 j9) ba bm pv bt bs ps pm on root user va (g : va < 4294967296) kind its room now T L fr pg (j : Rep its now T) (l : T.length ≤ room) (m : room ≤ 4) (n : now < 1000000) (h : MOk fr pg 0 L T) (q : WkOkM fr pg root va) (s : aK pg (cn fr pg root va).p = true) p f (t : p = (cn fr pg root va).p) (u : f = (bF pg (cn fr pg root va).p).1) o fast : sP W0 383 [pQ ba, .agg #[iQ p, iQ f, iQ o, .bool fast]] (pt ba (iR bm on root user va kind) :: pt bm (cD pv bt bs) :: aU bt (its, cX room now) :: bG bs L :: fA pv ps pm 0 fr pg R) (fun v B => v = .tuple #[] ∧ ∃ b c d a, Rep b a c ∧ c.length ≤ room ∧ MOk fr pg 0 d c ∧ a ≤ now + 1 ∧ (∃ x ∈ d, x.k = e8 root va ∧ (x.e.2.2 = iA pg (cn fr pg root va).r (cn fr pg root va).p 3 ∨ x.e.2.2 = io (iA pg (cn fr pg root va).r (cn fr pg root va).p 3))) ∧ B = pt ba (iR bm on root user va kind) :: pt bm (cD pv bt bs) :: aU bt (b, cX room a) :: bG bs d :: fA pv ps pm 0 fr pg R) := by
 grind [a3D]
theorem a3H W0 R (E : ∀ A, bC (aQ W0 A) 1 0 j9) ba bm pv bt bs ps pm root user va (i : va < 4294967296) kind its room now T L fr pg (G : Rep its now T) (H : T.length ≤ room) (I : room ≤ 4) (J : now < 1000000) (h : MOk fr pg 0 L T) :
    bE Tryz.prog W0 334 [pQ ba] (pt ba (iR bm true root user va kind) :: pt bm (cD pv bt bs) :: aU bt (its, cX room now) :: bG bs L :: fA pv ps pm 0 fr pg R)
      (fun v B => v = .tuple #[.agg (um fr pg true root user va kind).toArray, iQ (fI fr pg true root user va kind)] ∧ ∃ g t u b, Rep g b t ∧ t.length ≤ room ∧ MOk fr pg 0 u t ∧ b ≤ now + 1 ∧ (fI fr pg true root user va kind = 0 → ∃ x ∈ u, x.k = e8 root va ∧ (x.e.2.2 = iA pg (cn fr pg root va).r (cn fr pg root va).p 3 ∨ x.e.2.2 = io (iA pg (cn fr pg root va).r (cn fr pg root va).p 3))) ∧ B = pt bm (cD pv bt bs) :: aU bt (g, cX room b) :: bG bs u :: fA pv ps pm 0 fr pg R) := by
 have w := fun q => LK (fr := fr) (pg := pg) (root := root) (user := user) (va := va) (kind := kind) q;refine am func334 ntmps334 ?_;refine ez (dx tL) fun s => ?_;refine au 3 ?_;refine cF (fun c : Nat => True) (fun c => [(0, pQ ba), (2, pQ s), (4, pQ c), (5, iQ (fI fr pg true root user va kind))]) (fun c => pt s (ag [iQ 0, iQ 0, iQ 0, .bool false] 238) :: pt c (ag (um fr pg true root user va kind) 238) :: pt ba (iR bm true root user va kind) :: pt bm (cD pv bt bs) :: aU bt (its, cX room now) :: bG bs L :: fA pv ps pm 0 fr pg R) ?_ ?_;refine bq [ba, bm] 26 fun a => ?_;refine aj 0 10 a ?_;refine ax 10 a (df (a3F (k := 1) (us := qy true root user) (jN (k := 0) rfl) rfl)) ?_;refine aj 11 8 a ?_;refine fG (is := [19, 23]) (by kernel_rfl) rfl ⟨?_, ?_, trivial⟩;refine dy (cM H2 (Ao pv ps pm 0 fr pg h.P h.F true root user va i kind)) ?_; clear a;rintro _ K ⟨rfl, j⟩;obtain rfl := j.symm;refine ⟨aT, fun a => ?_⟩;refine aj 20 3 a ?_;refine cj 23 (dx tL) ?_; clear a;rintro _ _ ⟨c, rfl, rfl⟩;refine ⟨aT, fun a => ?_⟩;refine cp 24 aF fun a => ?_;refine aj 25 1 a ?_;refine aJ ?_;exact bu c trivial;skip;refine dy (dx tL) ?_; clear a;rintro _ _ ⟨c, rfl, rfl⟩;refine ⟨aT, fun a => ?_⟩;refine cg 19 (cM H2 (Ao pv ps pm 0 fr pg h.P h.F true root user va i kind)) fun a => ?_;refine aj 20 3 a ?_;refine cp 24 aF fun a => ?_;refine aj 25 1 a ?_;refine aJ ?_;exact bu c trivial;intro c _;refine cF (fun X : List It × List It × List Ln × Nat => Rep X.1 X.2.2.2 X.2.1 ∧ X.2.1.length ≤ room ∧ MOk fr pg 0 X.2.2.1 X.2.1 ∧ X.2.2.2 ≤ now + 1 ∧ (fI fr pg true root user va kind = 0 → ∃ x ∈ X.2.2.1, x.k = e8 root va ∧ (x.e.2.2 = iA pg (cn fr pg root va).r (cn fr pg root va).p 3 ∨ x.e.2.2 = io (iA pg (cn fr pg root va).r (cn fr pg root va).p 3)))) (fun X => [(2, pQ s), (4, pQ c), (5, iQ (fI fr pg true root user va kind))]) (fun X => pt s (ag [iQ 0, iQ 0, iQ 0, .bool false] 238) :: pt c (ag (um fr pg true root user va kind) 238) :: pt bm (cD pv bt bs) :: aU bt (X.1, cX room X.2.2.2) :: bG bs X.2.2.1 :: fA pv ps pm 0 fr pg R) ?_ ?_;refine au 6 ?_;refine ai (fun D => ?_) fun D => ?_;obtain ⟨M, N, O, Q, S⟩ := w D;refine aD rfl (J6 call383 rfl (a3G E ba bm pv bt bs ps pm true root user va i kind its room now T L fr pg G H I J h M N (eY oQ fr pg true root user va kind) (eY mc fr pg true root user va kind) O Q (eY md fr pg true root user va kind) false)) ?_;rintro _ K ⟨rfl, d, y, z, f, l, m, C, n, o, j⟩;subst j;refine aw ?_;refine bu (d, y, z, f) ?_;grind;refine bu (its, T, L, now) ?_;grind;intro ⟨d, y, z, f⟩ ⟨l, m, C, n, o⟩;dsimp only at l m C n o ⊢;refine aw ?_;refine ar aF ?_;refine aV (.cons (bi g8 eT rfl rfl) (.cons (aS rfl) .nil)) ?_;exact ⟨_, ⟨rfl, d, y, z, f, l, m, C, n, o, rfl⟩, IO⟩
theorem MOk.tl {fr pg d L T T'} (h : MOk fr pg d L T) (a : TI L T') : MOk fr pg d L T' := ⟨h.F, h.dl, h.P, h.pl, a, h.ln⟩
@[reducible] def wo (ba : Nat) : List Value := [.func (.func 332) #[.pointer (some ⟨ba, 0, none⟩)] #[], .func (.func 333) #[.pointer (some ⟨ba, 0, none⟩)] #[]]
theorem a3I {W0 N e R ba bm pv bt bs on root user va kind its room now i T L fx v} (d : va < 4294967296) (m : Rep its now T) (n : T.length ≤ room) (p : room ≤ 4) (r : now < 1000000) (f : TI L T) (y : i < 2) (s : (wo ba)[i]? = some v) (t : ev e fx = some v) :
    cZ Tryz.prog W0 N e (pt ba (iR bm on root user va kind) :: pt bm (cD pv bt bs) :: aU bt (its, cX room now) :: bG bs L :: R) (.call { callee := .value fx, args := #[], argTypes := #[] })
      (fun v B => ∃ o b c a, v = .tuple #[.agg (F7 o va).toArray, .bool o.isSome] ∧ F8 L (e8 root va) kind user o ∧ (i = 1 → o = none → ∀ x ∈ L, x.k = e8 root va → pd x.e kind user = false) ∧ Rep b a c ∧ c.length ≤ room ∧ TI L c ∧ a ≤ now + 1 ∧ B = pt ba (iR bm on root user va kind) :: pt bm (cD pv bt bs) :: aU bt (b, cX room a) :: bG bs L :: R) := by
 have u : i = 0 ∨ i = 1 := by omega
 rcases u with rfl | rfl;cases s
 exact je (us := [pQ ba]) (vs := []) (cs := []) t call332 rfl (ge (a2G ba bm pv bt bs on root user va d kind its room now T L m n p r f) fun v B g => by
  obtain ⟨o, b, c, a, h, j, l⟩ := g
  exact ⟨B, ⟨o, b, c, a, h, j, fun q => (by cases q), l⟩, ent_refl⟩)
 cases s
 exact je (us := [pQ ba]) (vs := []) (cs := []) t call333 rfl (ge (a2H ba bm pv bt bs on root user va d kind its room now T L m n p r f) fun v B g => by
  obtain ⟨o, b, c, a, h, j, l, w⟩ := g
  exact ⟨B, ⟨o, b, c, a, h, j, fun _ => l, w⟩, ent_refl⟩)
structure FnX (fr : List aB) (pg : List Pl) (d : Nat) (on : Bool) (root : Int) (user : Bool) (va : Nat) (kind : Int) (L L' : List Ln) (fast : Bool) (d' : Nat) : Prop where
  hit : fast = true → (on = true ∧ fI fr pg on root user va kind = 0) ∧ ∃ x ∈ L', x.e.1 = eY oQ fr pg on root user va kind ∧ pd x.e kind user = true
  old : fast = true → ∃ x ∈ L, x.k = e8 root va
  new : fast = false → on = true → va < 16384 → fI fr pg on root user va kind = 0 → ∃ x ∈ L', x.k = e8 root va ∧ (x.e.2.2 = iA pg (cn fr pg root va).r (cn fr pg root va).p 3 ∨ x.e.2.2 = io (iA pg (cn fr pg root va).r (cn fr pg root va).p 3))
  can : d = 0 → on = true → va < 16384 → ∀ x ∈ L, x.k = e8 root va → pd x.e kind user = true → fast = true
  dz : on = true → va < 16384 → d' = 0
theorem LL (hK : ∀ A, bC (aQ W0 A) 1 0 j9) bm pv bt bs ps pm d on root user (b : Nat) (j : b < 4294967296) kind its room now T L fr pg (hR : Rep its now T) (hT : T.length ≤ room) (hr : room ≤ 4) (hn : now < 900000) (h : MOk fr pg d L T) : sP W0 283 [.pointer (some ⟨bm, 0, none⟩), .agg (qy on root user).toArray, .int .u32 b, .int .i64 kind] (pt bm (cD pv bt bs) :: aU bt (its, cX room now) :: bG bs L :: fA pv ps pm d fr pg R) (fun v B => ∃ l m T' L' c d', v = .tuple #[.agg #[.int .i64 (eY oQ fr pg on root user b kind), .int .i64 (eY mc fr pg on root user b kind), .int .i64 (eY md fr pg on root user b kind), .bool l], .int .i64 (fI fr pg on root user b kind)] ∧ FnX fr pg d on root user b kind L L' l d' ∧ Rep m c T' ∧ T'.length ≤ room ∧ MOk fr pg d' L' T' ∧ c ≤ now + 3 ∧ B = pt bm (cD pv bt bs) :: aU bt (m, cX room c) :: bG bs L' :: fA pv ps pm d' fr pg R) := by
 refine ju 2 func283 ntmps283 ?_;refine ez (kg rfl) fun b5 => ?_;refine ez (dx tL) fun Y => ?_;refine au 7 ?_;refine dV 2 (gU zE rfl (wi bm pv bt bs)) ?_;refine aA rfl (fun c1 => ?_) fun c1 => ?_;exact absurd c1 (by decide);refine au 9 ?_;refine cy rfl rfl rfl (fun E => ?_) fun E => ?_;refine au 6 ?_;refine fj [(bm, 0, _), (b5, 0, _)] 12 mixed rfl (bQ (bQ bH)) (fun a => ?_);refine aj 0 4 a ?_;refine dp 4 rfl rfl rfl a (iD C4 wG rfl (by first | exact jN (k := 0) rfl | exact jN (k := 1) rfl) rfl) ?_;refine aj 5 2 a ?_;refine gy 7 rfl rfl (vm H2 rfl (Ao pv ps pm d fr pg h.P h.F on root user b j kind)) (bQ (bQ bH)) fun a => ?_;refine aj 8 2 a ?_;refine m8 10 rfl rfl (fN eT rfl rfl rfl rfl rfl) (bQ (bQ bH)) fun a => ?_;refine aj 11 1 a ?_;refine i6 ?_;refine au 3 ?_;refine aV (.cons (bi g8 eT rfl rfl) (.cons (aS rfl) .nil)) ?_;exact ⟨_, ⟨false, its, T, L, now, d, rfl, ⟨fun q => (by cases q), fun q => (by cases q), fun _ G H => (by first | omega | simp_all), fun _ G H => (by first | omega | simp_all), fun G H => (by first | omega | simp_all)⟩, hR, hT, h, by omega, rfl⟩, IO⟩;refine au 6 ?_;refine aA rfl (fun c3 => ?_) fun c3 => ?_;refine aO ?_;refine fj [(bm, 0, _), (b5, 0, _)] 12 mixed rfl (bQ (bQ bH)) (fun a => ?_);refine aj 0 4 a ?_;refine dp 4 rfl rfl rfl a (iD C4 wG rfl (by first | exact jN (k := 0) rfl | exact jN (k := 1) rfl) rfl) ?_;refine aj 5 2 a ?_;refine gy 7 rfl rfl (vm H2 rfl (Ao pv ps pm d fr pg h.P h.F on root user b j kind)) (bQ (bQ bH)) fun a => ?_;refine aj 8 2 a ?_;refine m8 10 rfl rfl (fN eT rfl rfl rfl rfl rfl) (bQ (bQ bH)) fun a => ?_;refine aj 11 1 a ?_;refine i6 ?_;refine au 3 ?_;refine aV (.cons (bi g8 eT rfl rfl) (.cons (aS rfl) .nil)) ?_;exact ⟨_, ⟨false, its, T, L, now, d, rfl, ⟨fun q => (by cases q), fun q => (by cases q), fun _ G H => (by first | omega | simp_all), fun _ G H => (by first | omega | simp_all), fun G H => (by first | omega | simp_all)⟩, hR, hT, h, by omega, rfl⟩, IO⟩;refine au 3 ?_;obtain rfl : on = true := by cases on <;> simp_all
 have x0 : b < 16384 := by omega
 refine au 2 ?_;refine aD rfl (lM H3 rfl (F5 bm pv bt bs ps pm d its (.int .i64 room) (.int .i64 now) now room T L fr pg hR hT hr h)) ?_;rintro _ B_ ⟨rfl, n, T1, p, f, x1, x2, Z, I, w⟩;subst f;have x3 : d = 0 → p = L := fun q => w (by rw [q]; decide);refine au 8 ?_;refine ae rfl (fR a8p zeroValue451 (aP NC (aP wG (aP aW (aP aR fQ)))) (cA rfl NC rfl rfl (Qab rfl) SetL.eq (kh rfl wG rfl rfl (Qab rfl) SetRL.eq (cA rfl aW rfl rfl (Qab rfl) SetL.eq (cA rfl aR rfl rfl (Qab rfl) SetL.eq fP))))) ?_;refine ez (kg rfl) fun g => ?_;refine au 7 ?_;refine ae rfl (xf rfl rfl) ?_;refine ae rfl (aM rfl) (ae rfl (xf rfl rfl) ?_);refine ez (js NT sizeOf452 zeroValue452 rfl rfl rfl rfl rfl (by decide) (by decide)) fun bl => ?_;refine au 5 ?_;refine fM (fun X : Nat × List It × List It × Nat => X.1 ≤ 2 ∧ Rep X.2.1 X.2.2.2 X.2.2.1 ∧ X.2.2.1.length ≤ room ∧ TI p X.2.2.1 ∧ X.2.2.2 ≤ now + X.1 ∧ (X.1 = 2 → ∀ x ∈ p, x.k = e8 root b → pd x.e kind user = false)) (fun X => [(8, .pointer (some ⟨Y, 0, none⟩)), (10, .pointer (some ⟨g, 0, none⟩)), (47, .slice (some ⟨bl, 0, none⟩) 2 2), (48, .int .i64 2), (49, .int .i64 X.1)]) (fun X => pt bl (ag (wo g) 452) :: pt Y (ag [.int .i64 0, .int .i64 0, .int .i64 0, .bool false] 238) :: pt g (iR bm true root user b kind) :: pt bm (cD pv bt bs) :: aU bt (X.2.1, cX room X.2.2.2) :: bG bs p :: fA pv ps pm 0 fr pg R) (fun X => 2 - X.1) (0, n, T1, now) ?_ ?_ ?_ ?_;exact ⟨QaF _, x1, x2, Z.ti, Qam _, fun q => absurd (show (0 : Nat) = 2 from q) (by decide)⟩
 · repeat (first | exact bK | refine bc rfl ?_)
 show Ent _ (pt bl (ag (wo g) 452) :: pt Y (ag [.int .i64 0, .int .i64 0, .int .i64 0, .bool false] 238) :: pt g (iR bm true root user b kind) :: pt bm (cD pv bt bs) :: aU bt (n, cX room now) :: bG bs p :: fA pv ps pm 0 fr pg R);exact IO;intro ⟨i, r, T2, J⟩ ⟨hi, y, z, C, x4, s⟩;dsimp only at hi y z C x4 s ⊢;refine au 6 ?_;refine aA rfl (fun c8 => ?_) fun c8 => ?_;refine au 5 ?_;have D : i < 2 := by omega
 have x5 : i < (wo g).length := D;obtain ⟨fv, K⟩ : ∃ v, (wo g)[i]? = some v := ⟨_, QaV x5⟩
 refine aX ?_;refine ae rfl (jM NT sizeOf452 rfl rfl rfl D (by first | exact Qac _ | rfl)) ?_;refine jP 6 (cu isAgg452 rfl (aI (by rw [QaB]; exact K))) ?_;refine aD rfl (rq inferInstance (a3I (R := pt bl (ag (wo g) 452) :: pt Y (ag [.int .i64 0, .int .i64 0, .int .i64 0, .bool false] 238) :: fA pv ps pm 0 fr pg R) (ba := g) (bm := bm) (pv := pv) (bt := bt) (bs := bs) (on := true) (root := root) (user := user) (kind := kind) (its := r) (L := p) j y z hr (by omega) C D K rfl)) ?_;rintro _ B_ ⟨o, t, T3, u, rfl, x6, x7, M, N, O, xc, f⟩;subst f;refine au 3 ?_;refine ez (dx tL) fun xd => ?_;refine iW 8 (fN eT rfl rfl rfl rfl rfl) ?_;refine aA rfl (fun x8 => ?_) fun x8 => ?_;refine au 3 ?_;refine iW 9 (fN eT rfl rfl rfl rfl rfl) ?_;refine aV (.cons (bi g8 eT rfl rfl) (.cons (aS rfl) .nil)) ?_;obtain ⟨x, rfl⟩ : ∃ x, o = some x := by cases o <;> simp_all
 obtain ⟨Q, S, U⟩ := x6 x rfl;obtain ⟨e0, e1, e2, e3⟩ := a3E Z Q x0 S U;refine ⟨_, ⟨true, t, T3, p, u, 0, ?_, ⟨fun _ => ⟨⟨rfl, e0⟩, x, Q, e1.symm, U⟩, fun _ => ⟨x, I x Q, S⟩, fun q => (by cases q), fun _ _ _ _ _ _ _ => rfl, fun _ _ => rfl⟩, M, N, Z.tl O, by omega, rfl⟩, IO⟩;rw [e0, e1, e2, e3]; rfl;refine au 4 ?_;refine jP 3 (Pm rfl rfl) ?_;exact bR (i + 1, t, T3, u) (⟨by omega, M, N, O, by dsimp only; omega, fun q => x7 (by dsimp only at q; omega) (by cases o <;> simp_all)⟩);refine au 6 ?_;obtain rfl : i = 2 := by omega
 have h2 := Z.tl C;refine au 2 ?_;refine aD rfl (J6 call334 rfl (a3H W0 _ hK g bm pv bt bs ps pm root user b j kind r room J T2 p fr pg y z hr (by omega) h2)) ?_;rintro _ B_ ⟨rfl, V, T4, L4, W, x9, xa, h4, xe, xb, f⟩;subst f;refine au 2 ?_;refine iW 4 (fN eT rfl rfl rfl rfl rfl) ?_;refine aV (.cons (bi g8 eT rfl rfl) (.cons (aS rfl) .nil)) ?_
 exact ⟨_, ⟨false, V, T4, L4, W, 0, rfl, ⟨fun q => (by cases q), fun q => (by cases q), fun _ _ _ q => xb q, fun q _ _ x Q hk hm => (by
   rw [s rfl x (by rw [x3 q]; exact Q) hk] at hm; cases hm), fun _ _ => rfl⟩, x9, xa, h4, by omega, rfl⟩, IO⟩
theorem LM {fr pg on root user va kind} (h : fI fr pg on root user va kind = 0) :
    ∃ b, b < 768 ∧ b % 64 = va % 64 ∧ dB fr.length pg b 1 kind = 0 ∧ eY oQ fr pg on root user va kind = (b / 64 : Nat) ∧ eY mc fr pg on root user va kind = (bF pg (b / 64 : Nat)).1 ∧ eY md fr pg on root user va kind = (b % 64 : Nat) := by
 cases on with
 | false =>
  have a : ∀ g, eY g fr pg false root user va kind = g fr.length pg va 1 kind := fun g => by unfold eY; rw [Qaa (by decide)]
  have h : dB fr.length pg va 1 kind = 0 := by grind [fI]
  exact ⟨va, (xq h).1, rfl, h, by rw [a, oQ, Qad h], by rw [a, mc, Qad h], by rw [a, md, Qad h]⟩
 | true =>
  obtain ⟨s, c⟩ : ∃ s, cn fr pg root va = s := ⟨_, rfl⟩
  obtain ⟨k, f, i⟩ := xz fr pg root va;unfold fI at h;rw [Qad rfl, c] at h;by_cases j : s.fault ≠ 0;omega;rw [Qaa j] at h;by_cases d : oR s kind user = true
  case neg => rw [Qaa d] at h; exact absurd h (by decide)
  rw [Qad d] at h;rw [c] at f;have e : kv s va = 64 * k + va % 64 := by rw [kv, f]; rfl
  obtain ⟨m, l⟩ := Fo k va;have a : ∀ g, eY g fr pg true root user va kind = g fr.length pg (kv s va) 1 kind := fun g => by
   unfold eY;rw [Qad rfl, c, Qaa j, Qad d]
  exact ⟨kv s va, (xq h).1, by rw [e, l], h, by rw [a, oQ, Qad h], by rw [a, mc, Qad h], by rw [a, md, Qad h]⟩
theorem b0h {va pa w} (h : en va w = true) (e : pa % 64 = va % 64) : en pa w = true := by
 have := Qar h;refine Qah ⟨this.1, ?_⟩;obtain ⟨a | a | a, b⟩ := this <;> subst a <;> omega
theorem a3J {n pg va pa w kind} (h : dB n pg pa 1 kind = 0) (a : en va w = true) (e : pa % 64 = va % 64) : dB n pg pa w kind = 0 := by
 grind [en, dB]
theorem LN {n pg pa kind} (h : dB n pg pa 1 kind = 0) : aK pg (pa / 64 : Nat) = true := by
 grind [en, dB, fp]
def pi (fr : List aB) (pg : List Pl) (on : Bool) (root : Int) (user : Bool) (va : Nat) (w kind : Int) : Nat := if en va w then (if fI fr pg on root user va kind = 0 then jR fr (eY mc fr pg on root user va kind) (eY md fr pg on root user va kind) w else 0) else 0
def lT (fr : List aB) (pg : List Pl) (on : Bool) (root : Int) (user : Bool) (va : Nat) (w kind : Int) : Int := if en va w then fI fr pg on root user va kind else 1
def lU (fr : List aB) (pg : List Pl) (on : Bool) (root : Int) (user : Bool) (va : Nat) (w : Int) (x : Nat) : List aB := if en va w then (if fI fr pg on root user va 2 = 0 then eJ fr (eY mc fr pg on root user va 2) (eY md fr pg on root user va 2) w x else fr) else fr
theorem LO (d : Nat) (e : d < 4294967296) w : sQ W0 282 [.int .u32 d, iQ w] R (.bool (en d w)) R := by
 refine am func282 ntmps282 ?_;refine cz (fun b => ?_) fun b => ?_;refine aa (bD (cW (by omega))) ?_;refine aa (dT rfl rfl (by omega) (Qat (by omega))) ?_;refine ac ?_;refine aG ?_;refine Qai Value.bool ?_;rw [Qag]; simp only [en, Qaj, QaZ]
 first
   | omega
   | (simp only [Qaq, QaS]; omega)
   | (constructor <;> intro q <;> simp_all <;> omega)
 refine cz (fun c => ?_) fun c => ?_;refine aa (bD (cW (by omega))) ?_;refine aa (dT rfl rfl (by omega) (Qat (by omega))) ?_;refine ac ?_;refine aG ?_;refine Qai Value.bool ?_;rw [Qag]; simp only [en, Qaj, QaZ]
 first
   | omega
   | (simp only [Qaq, QaS]; omega)
   | (constructor <;> intro q <;> simp_all <;> omega)
 refine bO (fun a => ?_) fun a => ?_;refine aa (bD (cW (by omega))) ?_;refine aa (dT rfl rfl (by omega) (Qat (by omega))) ?_;refine ac ?_;refine aG ?_;refine Qai Value.bool ?_;rw [Qag]; simp only [en, Qaj, QaZ]
 first
   | omega
   | (simp only [Qaq, QaS]; omega)
   | (constructor <;> intro q <;> simp_all <;> omega)
 refine ac ?_;refine aG ?_;refine Qai Value.bool ?_;rw [Qag]; simp only [en, Qaj, QaZ]
 first
   | omega
   | (simp only [Qaq, QaS]; omega)
   | (constructor <;> intro q <;> simp_all <;> omega)
theorem LP qv qs qm d fr pg (h : Pgs pg) (m : cB fr) on root user (c : Nat) (k : c < 4294967296) w kind : sQ W0 143 [pQ qv, .agg (qy on root user).toArray, .int .u32 c, iQ w, iQ kind] (iM qv qs qm d fr pg R) (.tuple #[.int .u32 (pi fr pg on root user c w kind), iQ (lT fr pg on root user c w kind)]) (iM qv qs qm d fr pg R) := by
 obtain ⟨i, q⟩ : ∃ a, en c w = a := ⟨_, rfl⟩
 have e : i = true ↔ (w = 1 ∨ w = 2 ∨ w = 4) ∧ (c : Int) % w = 0 := by grind [en]
 rw [pi, lT, q];refine am func143 ntmps143 ?_;refine bz fun r => ?_;refine bO (fun n => ?_) fun n => ?_;refine bO (fun o => ?_) fun o => ?_;refine cz (fun l => ?_) fun l => ?_;refine az ?_;have b : i = false := by grind
 exact ⟨_, ⟨by rw [b]; rfl, rfl⟩, IO⟩;refine aa (bD (cW (by omega))) ?_;refine aa (dT rfl rfl (by omega) (Qat (by omega))) ?_;refine ai (fun p => ?_) fun p => ?_;refine az ?_;have b : i = false := by grind
 exact ⟨_, ⟨by rw [b]; rfl, rfl⟩, IO⟩;have b : i = true := e.2 (by omega);rw [b, Qad rfl, Qad rfl];refine ah (cM zF (vP qv qs qm d fr pg h m on root user c k kind)) ?_;refine bj fun f => ?_;refine ar aF ?_;refine ai (fun j => ?_) fun j => ?_;refine az ?_;rw [Qaa j];exact ao;rw [Qad (by omega)];refine bq [qv, f] 15 fun g => ?_;refine aj 0 9 g ?_;refine cg 9 (ap GI (Ae qs fr _ _ w m)) fun g => ?_;refine aj 10 5 g ?_;refine aJ ?_;refine az ?_;exact ⟨_, ⟨by rw [show fI fr pg on root user c kind = 0 by omega] <;> rfl, rfl⟩, IO⟩;refine aa (bD (cW (by omega))) ?_;refine aa (dT rfl rfl (by omega) (Qat (by omega))) ?_;refine ai (fun p => ?_) fun p => ?_;refine az ?_;have b : i = false := by grind
 exact ⟨_, ⟨by rw [b]; rfl, rfl⟩, IO⟩;have b : i = true := e.2 (by omega);rw [b, Qad rfl, Qad rfl];refine ah (cM zF (vP qv qs qm d fr pg h m on root user c k kind)) ?_;refine bj fun f => ?_;refine ar aF ?_;refine ai (fun j => ?_) fun j => ?_;refine az ?_;rw [Qaa j];exact ao;rw [Qad (by omega)];refine bq [qv, f] 15 fun g => ?_;refine aj 0 9 g ?_;refine cg 9 (ap GI (Ae qs fr _ _ w m)) fun g => ?_;refine aj 10 5 g ?_;refine aJ ?_;refine az ?_;exact ⟨_, ⟨by rw [show fI fr pg on root user c kind = 0 by omega] <;> rfl, rfl⟩, IO⟩;refine aa (bD (cW (by omega))) ?_;refine aa (dT rfl rfl (by omega) (Qat (by omega))) ?_;refine ai (fun p => ?_) fun p => ?_;refine az ?_;have b : i = false := by grind
 exact ⟨_, ⟨by rw [b]; rfl, rfl⟩, IO⟩;have b : i = true := e.2 (by omega);rw [b, Qad rfl, Qad rfl];refine ah (cM zF (vP qv qs qm d fr pg h m on root user c k kind)) ?_;refine bj fun f => ?_;refine ar aF ?_;refine ai (fun j => ?_) fun j => ?_;refine az ?_;rw [Qaa j];exact ao;rw [Qad (by omega)];refine bq [qv, f] 15 fun g => ?_;refine aj 0 9 g ?_;refine cg 9 (ap GI (Ae qs fr _ _ w m)) fun g => ?_;refine aj 10 5 g ?_;refine aJ ?_;refine az ?_;exact ⟨_, ⟨by rw [show fI fr pg on root user c kind = 0 by omega] <;> rfl, rfl⟩, IO⟩
theorem a3K qv qs qm d fr pg (h : Pgs pg) (m : cB fr) on root user (b : Nat) (k : b < 4294967296) w (x : Nat) (q : x < 4294967296) : sQ W0 231 [pQ qv, .agg (qy on root user).toArray, .int .u32 b, iQ w, .int .u32 x] (iM qv qs qm d fr pg R) (iQ (lT fr pg on root user b w 2)) (iM qv qs qm d (lU fr pg on root user b w x) pg R) := by
 obtain ⟨i, r⟩ : ∃ a, en b w = a := ⟨_, rfl⟩
 have e : i = true ↔ (w = 1 ∨ w = 2 ∨ w = 4) ∧ (b : Int) % w = 0 := by grind [en]
 rw [lU, lT, r];refine am func231 ntmps231 ?_;refine bz fun s => ?_;refine bO (fun n => ?_) fun n => ?_;refine bO (fun o => ?_) fun o => ?_;refine cz (fun l => ?_) fun l => ?_;refine ac ?_;have c : i = false := by grind
 rw [c, Qaa (by decide), Qaa (by decide)];exact ao;refine aa (bD (cW (by omega))) ?_;refine aa (dT rfl rfl (by omega) (Qat (by omega))) ?_;refine ai (fun p => ?_) fun p => ?_;refine ac ?_;have c : i = false := by grind
 rw [c, Qaa (by decide), Qaa (by decide)];exact ao;have c : i = true := e.2 (by omega);rw [c, Qad rfl, Qad rfl];refine ah (cM zF (vP qv qs qm d fr pg h m on root user b k 2)) ?_;refine bj fun f => ?_;refine iW 3 aF ?_;refine cF (fun _ : Unit => True) (fun _ => [(12, iQ (fI fr pg on root user b 2))]) (fun _ => iM qv qs qm d (if fI fr pg on root user b 2 = 0 then eJ fr (eY mc fr pg on root user b 2) (eY md fr pg on root user b 2) w x else fr) pg R) ?_ ?_;refine au 6 ?_;refine ai (fun g => ?_) fun g => ?_;refine bq [qv, f] 11 fun j => ?_;refine aj 0 10 j ?_;refine cg 10 (ap Cp (xt qs fr _ _ w x q m)) fun j => ?_;refine aJ ?_;refine bu () ?_ (he := ?_);trivial;rw [Qad g];exact IO;refine bu () ?_ (he := ?_);trivial;rw [Qaa g];exact IO;intro _ _;refine aw ?_;exact ac ao;refine aa (bD (cW (by omega))) ?_;refine aa (dT rfl rfl (by omega) (Qat (by omega))) ?_;refine ai (fun p => ?_) fun p => ?_;refine ac ?_;have c : i = false := by grind
 rw [c, Qaa (by decide), Qaa (by decide)];exact ao;have c : i = true := e.2 (by omega);rw [c, Qad rfl, Qad rfl];refine ah (cM zF (vP qv qs qm d fr pg h m on root user b k 2)) ?_;refine bj fun f => ?_;refine iW 3 aF ?_;refine cF (fun _ : Unit => True) (fun _ => [(12, iQ (fI fr pg on root user b 2))]) (fun _ => iM qv qs qm d (if fI fr pg on root user b 2 = 0 then eJ fr (eY mc fr pg on root user b 2) (eY md fr pg on root user b 2) w x else fr) pg R) ?_ ?_;refine au 6 ?_;refine ai (fun g => ?_) fun g => ?_;refine bq [qv, f] 11 fun j => ?_;refine aj 0 10 j ?_;refine cg 10 (ap Cp (xt qs fr _ _ w x q m)) fun j => ?_;refine aJ ?_;refine bu () ?_ (he := ?_);trivial;rw [Qad g];exact IO;refine bu () ?_ (he := ?_);trivial;rw [Qaa g];exact IO;intro _ _;refine aw ?_;exact ac ao;refine aa (bD (cW (by omega))) ?_;refine aa (dT rfl rfl (by omega) (Qat (by omega))) ?_;refine ai (fun p => ?_) fun p => ?_;refine ac ?_;have c : i = false := by grind
 rw [c, Qaa (by decide), Qaa (by decide)];exact ao;have c : i = true := e.2 (by omega);rw [c, Qad rfl, Qad rfl];refine ah (cM zF (vP qv qs qm d fr pg h m on root user b k 2)) ?_;refine bj fun f => ?_;refine iW 3 aF ?_;refine cF (fun _ : Unit => True) (fun _ => [(12, iQ (fI fr pg on root user b 2))]) (fun _ => iM qv qs qm d (if fI fr pg on root user b 2 = 0 then eJ fr (eY mc fr pg on root user b 2) (eY md fr pg on root user b 2) w x else fr) pg R) ?_ ?_;refine au 6 ?_;refine ai (fun g => ?_) fun g => ?_;refine bq [qv, f] 11 fun j => ?_;refine aj 0 10 j ?_;refine cg 10 (ap Cp (xt qs fr _ _ w x q m)) fun j => ?_;refine aJ ?_;refine bu () ?_ (he := ?_);trivial;rw [Qad g];exact IO;refine bu () ?_ (he := ?_);trivial;rw [Qaa g];exact IO;intro _ _;refine aw ?_;exact ac ao
theorem a3L W0 R (J : ∀ A, bC (aQ W0 A) 1 0 j9) bm pv bt bs ps pm d on root user (c : Nat) (i : c < 4294967296) w kind its room now T L fr pg (u : Rep its now T) (x : T.length ≤ room) (K : room ≤ 4) (M : now < 900000) (h : MOk fr pg d L T) :
    bE Tryz.prog W0 207 [pQ bm, .agg (qy on root user).toArray, .int .u32 c, iQ w, iQ kind] (pt bm (cD pv bt bs) :: aU bt (its, cX room now) :: bG bs L :: fA pv ps pm d fr pg R)
      (fun v B => v = .tuple #[.int .u32 (pi fr pg on root user c w kind), iQ (lT fr pg on root user c w kind)] ∧ ∃ e o y b z, Rep e b o ∧ o.length ≤ room ∧ MOk fr pg z y o ∧ b ≤ now + 3 ∧ B = pt bm (cD pv bt bs) :: aU bt (e, cX room b) :: bG bs y :: fA pv ps pm z fr pg R) := by
 obtain ⟨C, j⟩ : ∃ a, en c w = a := ⟨_, rfl⟩
 rw [pi, lT, j];refine am func207 ntmps207 ?_;refine bz fun O => ?_;refine ah (ap zE (wi bm pv bt bs)) ?_;refine ah (aC call282 (LO c i w)) ?_;rw [j];refine ai (fun N => ?_) fun N => ?_;refine az ?_;have p : C = false := by grind
 rw [p, Qaa (by decide), Qaa (by decide)];exact ⟨_, ⟨rfl, its, T, L, now, d, u, x, h, by omega, rfl⟩, IO⟩;have p : C = true := by grind
 rw [p, Qad rfl, Qad rfl];refine aD rfl (vA call283 rfl (LL J bm pv bt bs ps pm d on root user c i kind its room now T L fr pg u x K M h)) ?_;rintro _ P ⟨D, f, E, G, g, q, rfl, r, k, l, H, m, s⟩;subst s;refine aw ?_;refine bj fun t => ?_;refine ar aF ?_;refine ai (fun I => ?_) fun I => ?_;refine az ?_;rw [Qaa I];exact ⟨_, ⟨rfl, f, E, G, g, q, k, l, H, m, rfl⟩, IO⟩;rw [Qad (by omega)];refine bq [bm, t] 16 fun n => ?_;refine aj 0 4 n ?_;refine aj 5 5 n ?_;refine cg 4 (ap OA (Dx pv ps pm q)) fun n => ?_;refine cg 10 (ap call91 (Iq ps fr _ _ w h.F)) fun n => ?_;refine aj 11 5 n ?_;refine aJ ?_;refine az ?_;exact ⟨_, ⟨by rw [show fI fr pg on root user c kind = 0 by omega] <;> rfl, f, E, G, g, q, k, l, H, m, rfl⟩, IO⟩
theorem a3M {n : Nat} (h : n < 16) (b : eE n 2 = true) : wB n = true := by
 have a : ∀ n : Nat, n < 16 → eE (n : Int) 2 = true → wB (n : Int) = true := by decide +kernel
 exact a n h b
theorem Bq {d p t} (h : Nat.testBit (d ||| 2 ^ p) t = false) : Nat.testBit d t = false ∧ t ≠ p := by
 grind
theorem a3N W0 R (hK : ∀ A, bC (aQ W0 A) 1 0 j9) bm pv bt bs ps pm d on root user (l : Nat) (H : l < 4294967296) w (x : Nat) (hx : x < 4294967296) its room now T L fr pg (hR : Rep its now T) (hT : T.length ≤ room) (hr : room ≤ 4) (U : now < 900000) (h : MOk fr pg d L T) :
    bE Tryz.prog W0 349 [pQ bm, .agg (qy on root user).toArray, .int .u32 l, iQ w, .int .u32 x] (pt bm (cD pv bt bs) :: aU bt (its, cX room now) :: bG bs L :: fA pv ps pm d fr pg R)
      (fun v B => v = iQ (lT fr pg on root user l w 2) ∧ ∃ m V L' i d', Rep m i V ∧ V.length ≤ room ∧ MOk (lU fr pg on root user l w x) pg d' L' V ∧ i ≤ now + 3 ∧ B = pt bm (cD pv bt bs) :: aU bt (m, cX room i) :: bG bs L' :: fA pv ps pm d' (lU fr pg on root user l w x) pg R) := by
 obtain ⟨al, p⟩ : ∃ a, en l w = a := ⟨_, rfl⟩
 rw [lU, lT, p];have I := fun q => LM (fr := fr) (pg := pg) (on := on) (root := root) (user := user) (va := l) (kind := 2) q;obtain ⟨E, N⟩ : ∃ e, fI fr pg on root user l 2 = e := ⟨_, rfl⟩
 rw [N] at I;refine am func349 ntmps349 ?_;refine bz fun b6 => ?_;refine ah (ap zE (wi bm pv bt bs)) ?_;refine ah (aC call282 (LO l H w)) ?_;rw [p];refine ai (fun c3 => ?_) fun c3 => ?_;refine ac ?_;have O : al = false := by grind
 rw [O, Qaa (by decide), Qaa (by decide)];exact ⟨_, ⟨rfl, its, T, L, now, d, hR, hT, h, by omega, rfl⟩, IO⟩;have O : al = true := by grind
 rw [O, Qad rfl, Qad rfl, N];refine aD rfl (vA call283 rfl (LL hK bm pv bt bs ps pm d on root user l H 2 its room now T L fr pg hR hT hr U h)) ?_;rintro _ B_ ⟨x4, j, W, Q, k, o, rfl, b, s, u, g, C, D⟩;subst D;rw [N];replace b := b.hit;rw [N] at b;refine aw ?_;refine bj fun J => ?_;refine ar aF ?_;refine ai (fun c6 => ?_) fun c6 => ?_;refine ac ?_;rw [Qaa c6];exact ⟨_, ⟨rfl, j, W, Q, k, o, s, u, g, C, rfl⟩, IO⟩;obtain rfl : E = 0 := by omega
 rw [Qad rfl];obtain ⟨f, p1, p2, p3, p4, p5, p6⟩ := I rfl;have K := LN p3;have X := a3J (w := w) p3 (p.trans O) p2;rw [p4, p5, p6];rw [p4] at b;refine ai (fun c8 => ?_) fun c8 => ?_;have Y : ∀ y ∈ Q, ∀ t, t = y.rt ∨ t = y.lf → Nat.testBit o t.toNat = false → t ≠ ((f / 64 : Nat) : Int) := fun y Z t ht _ e => by
  obtain ⟨_, z, hz, e1, hm⟩ := b (by simp_all);simp only [pd, Qao] at hm;have x5 := (g.ln z hz).r;have S : eE z.e.2.2 2 = true := hm.1.2.1;have hw : wB z.e.2.2 = true := by
   obtain ⟨n, U⟩ : ∃ n : Nat, z.e.2.2 = (n : Int) := ⟨z.e.2.2.toNat, by omega⟩
   rw [U] at S ⊢;exact a3M (by omega) S
  have M := g.ti.nowr z hz hw;rw [← Qau, uF] at M;exact M ⟨y, Z, by rw [t8, e1, ← e]; exact ht.imp QcX QcX⟩
 have G := g.save K ((f % 64 : Nat) : Int) w x g.dl (fun t q => q) Y;refine bq [bm, J] 12 fun c => ?_;refine aj 0 4 c ?_;refine aj 5 6 c ?_;refine cg 4 (ap OA (Dx pv ps pm o)) fun c => ?_;refine cg 11 (ap O4 (Dt ps fr _ _ w x hx g.F)) fun c => ?_;refine aJ ?_;refine ac ?_;exact ⟨_, ⟨rfl, j, W, Q, k, o, s, u, G, C, rfl⟩, IO⟩;have x0 : f / 64 < 12 := by omega
 have x1 : o ||| 2 ^ (f / 64) < 4096 := Qcd (n := 12) g.dl (Dw x0)
 have G := g.save K ((f % 64 : Nat) : Int) w x x1 (fun t q => (Bq q).1) (fun y Z t ht S e => by
  have h1 := (g.ln y Z).own;have h3 := (Bq S).2
  rcases ht with rfl | rfl <;> omega)
 have x2 : kN fr pg f w x = eJ fr (bF pg ((f / 64 : Nat) : Int)).1 ((f % 64 : Nat) : Int) w x := by grind [kN]
 have x3 : pI fr pg f w o = o ||| 2 ^ (f / 64) := by grind [pI]
 refine bq [bm, J] 15 fun c => ?_;refine aj 0 6 c ?_;refine ax 6 c (ko (64 * (f / 64))) ?_;refine aj 7 2 c ?_;refine ax 9 c (dU f) ?_;refine ax 10 c (bD (cW (by omega))) ?_;refine aj 11 2 c ?_;refine cj 13 (cM call55 (Iv pv ps pm o fr pg g.P g.F g.dl f (by omega) w x hx)) ?_; clear c;rintro _ B_ ⟨rfl, D⟩;subst D;rw [x2, x3, X];refine ⟨aT, fun c => ?_⟩;refine aj 14 1 c ?_;refine aJ ?_;refine ac ?_;exact ⟨_, ⟨rfl, j, W, Q, k, _, s, u, G, C, rfl⟩, IO⟩
theorem LQ {pg n m p} (h : m ≠ n) : eG (pg.set n p) m = eG pg m := by
 grind [eG]
theorem g5 {pg} {n : Nat} {t p} (h : t ≠ (n : Int)) : aK (pg.set n p) t = aK pg t ∧ bF (pg.set n p) t = bF pg t := by
 have b : aK (pg.set n p) t = aK pg t := by
  unfold aK
  cases c : jg t with
  | false => rfl
  | true =>
   obtain ⟨i, rfl, d⟩ := kM c;rw [Qae, LQ (by omega)]
 refine ⟨b, ?_⟩;unfold bF;rw [b];by_cases a : aK pg t = true;rw [Qad a, Qad a];simp only [aK, Qao] at a;obtain ⟨i, rfl, d⟩ := kM a.1;rw [Qae, LQ (by omega)];grind
theorem a3O {fr pg} {n : Nat} {t p} (h : t ≠ (n : Int)) : yp fr pg fr (pg.set n p) t :=
  F3 rfl (g5 h).1 (g5 h).2 fun _ _ _ => rfl
theorem LOk.set {fr pg} {d n : Nat} {p x} (h : LOk fr pg d x) (a : x.e.1 ≠ n) (b : ∀ t, t = x.rt ∨ t = x.lf → aK pg t = true → t ≠ n) : LOk fr (pg.set n p) d x :=
  h.move ((g5 a).1.trans h.at_.1) (g5 a).2 fun t c f => ⟨f, fun q => a3O (b t c q)⟩
theorem yB {a : List Pl} {n} {p : Pl} (e : a.length = 12) (f : n < 12) (d : p ≠ (0, 0)) : aK (a.set n p) n = true ∧ bF (a.set n p) n = p := by
 have b : eG (a.set n p) n = p := by grind [eG]
 have c : aK (a.set n p) (n : Int) = true := by
  unfold aK;rw [Qae, b, Qao];exact ⟨Qah (by omega), by simpa using d⟩
 exact ⟨c, by rw [bF, Qad c, Qae, b]⟩
theorem PlOk.set {N n pg} {p : Pl} (h : PlOk N pg) (c : pg.length = 12) (d : n < 12) (f : p ≠ (0, 0)) (g : p.1 < N) (i : ∀ t, aK pg t = true → (bF pg t).1 ≠ p.1) : PlOk N (pg.set n p) := by
 have j := yB c d f;refine ⟨fun t a => ?_, fun s t b a e => ?_⟩;by_cases q : t = (n : Int);grind;rw [(g5 q).1] at a; rw [(g5 q).2]; exact h.rng t a;by_cases q : s = (n : Int);grind [g5];rw [(g5 q).1] at b;by_cases r : t = (n : Int);simp_all [g5];rw [(g5 r).1] at a;rw [(g5 q).2, (g5 r).2] at e;exact h.inj s t b a e
theorem PlOk.drop {N n pg} (h : PlOk N pg) (f : pg.length = 12) : PlOk N (pg.set n (0, 0)) := by
 have d : aK (pg.set n (0, 0)) (n : Int) = false := by
  grind [aK, Qae, eG]
 have b : ∀ t, aK (pg.set n (0, 0)) t = true → t ≠ (n : Int) := fun t a e => by rw [e, d] at a; cases a
 refine ⟨fun t a => ?_, fun s t c a e => ?_⟩;have q := b t a;rw [(g5 q).1] at a; rw [(g5 q).2]; exact h.rng t a;have q := b s c;have r := b t a;rw [(g5 q).1] at c;rw [(g5 r).1] at a;rw [(g5 q).2, (g5 r).2] at e;exact h.inj s t c a e
theorem MOk.come {fr pg} {d n : Nat} {L T p} (h : MOk fr pg d L T) (j : p.1 < (fr.length : Int)) (k : ∀ t, aK pg t = true → (bF pg t).1 ≠ p.1) : MOk fr (dO pg n p) d L T := by
 unfold dO;split
 case isFalse => exact h
 case isTrue hz =>
  have l := hz;have a : aK pg (n : Int) = false := by
   grind [fW]
  have f : jg (n : Int) = true ∧ lp p = true := by
   grind [fW]
  obtain ⟨i, o, m⟩ := kM f.1;have b : p ≠ (0, 0) := fun e => by
   have := f.2;rw [e] at this;exact absurd this (by decide)
  have c := vJ (n := (n : Int)) (p := p) h.P;rw [dO, Qad hz] at c;rw [Qae] at c ⊢;refine ⟨h.F, h.dl, c, h.pl.set h.P.len (by omega) b j k, h.ti, fun x g => (h.ln x g).set (fun e => ?_) fun t _ q e => ?_⟩;have := (h.ln x g).at_.1;rw [e, a] at this; cases this;grind
theorem LOk.go {fr pg} {d n : Nat} {x} (h : LOk fr pg d x) (a : n0 n x = false) : LOk fr (eZ pg n) d x := by
 unfold eZ;split;rw [Qae];simp only [n0, QcT, QcC] at a;refine h.set a.2 fun t b _ e => ?_;have c := a.1;rw [← Qau, t8] at c;rcases b with rfl | rfl;omega;omega;exact h
theorem LR {N n : Nat} {pg} (a : pg.length = 12) (h : PlOk N pg) : PlOk N (eZ pg n) := by
 unfold eZ;split;rw [Qae]; exact h.drop a;exact h
theorem a3P bm pv bt bs ps pm d its room now T L fr pg (O : Rep its now T) (Q : T.length ≤ room) (S : room ≤ 4) (n : Nat) (h : MOk fr pg d L T) : sP W0 123 [.pointer (some ⟨bm, 0, none⟩), .int .i64 n] (pt bm (cD pv bt bs) :: aU bt (its, cX room now) :: bG bs L :: pt pv (bW ps pm d) :: R) (fun v B => v = .int .i64 0 ∧ ∃ c w K, B = pt bm (cD pv bt bs) :: aU bt (c, cX room now) :: bG bs K :: pt pv (bW ps pm 0) :: R ∧ Rep c now w ∧ w.length ≤ room ∧ MOk fr (eZ pg n) 0 K w) := by
 obtain ⟨I, u⟩ : ∃ I : List Ln → List It → Prop, (fun L T => TI L T ∧ ∀ x ∈ L, n0 (n : Int) x = false → LOk fr (eZ pg (n : Int)) d x) = I := ⟨_, rfl⟩
 have z : I L T := by
  rw [← u];exact ⟨h.ti, fun x f q => (h.ln x f).go q⟩
 have j : ∀ L T, I L T → L.length ≤ 1000 := fun L T q => by
  rw [← u] at q;exact Qba q.1.len (by decide)
 have l : ∀ L T p, I L T → I (L.filter fun x => !p x) (nO ((L.filter p).map Ln.k) T) := fun L T p q => by
  rw [← u] at q ⊢
  exact ⟨q.1.drop p fun y U => by
   obtain ⟨V, W⟩ := Ld U
   exact ⟨V, fun x f X e => W (Qbd.2 ⟨x, QaD.2 ⟨f, X⟩, e.symm⟩)⟩, fun x f => q.2 x (QaD.1 f).1⟩
 refine ju 9 func123 ntmps123 ?_;refine dV 2 (gU zE rfl (wi bm pv bt bs)) ?_;refine aA rfl (fun M => ?_) fun M => ?_;exact absurd M (by decide);refine au 5 ?_;refine aD rfl (lM H3 rfl (Lk bm pv bt bs ps pm d its (.int .i64 room) (.int .i64 now) now room T L O Q S h.dl I j l z)) ?_;rintro _ N ⟨rfl, m, o, g, a, A, C, r, D, _⟩;subst a;have E := j g o r;have b := l g o (n0 (n : Int)) r;obtain ⟨i, s⟩ : ∃ i, (g.filter (n0 (n : Int))).map Ln.k = i := ⟨_, rfl⟩
 have G : (g.filter (n0 (n : Int))).length = i.length := by grind
 have H : i.length ≤ 1000 := by grind
 rw [s] at b;refine au 10 ?_;refine aD rfl (gU call194 rfl (a2a bs g E (n : Int))) ?_;rintro _ N ⟨Y, Z, rfl, a⟩;subst a;rw [Lj, s, G];refine aD rfl (vm call149 rfl (Le bm pv bt bs m (.int .i64 room) (.int .i64 now) now o A (by omega) Y Z i H)) ?_;rintro _ N ⟨rfl, t, a, J⟩;subst a;refine au 8 ?_;refine ac ?_;rw [← u] at b
 have hm : MOk fr (eZ pg (n : Int)) 0 (g.filter fun x => !n0 (n : Int) x) (nO i o) := ⟨h.F, by decide, L9 h.P, LR h.P.len h.pl, b.1, fun x f => by
  obtain ⟨hx1, hx2⟩ := QaD.1 f
  exact (b.2 x f (by grind)).clean (D x hx1)⟩
 exact ⟨_, ⟨rfl, t, nO i o, g.filter fun x => !n0 (n : Int) x, rfl, J, Qba F4 C, hm⟩, IO⟩
theorem MOk.flush {fr pg L T} (h : MOk fr pg 0 L T) : MOk fr pg 0 [] [] := ⟨h.F, h.dl, h.P, h.pl, TI.nil, fun x a => by simp at a⟩
theorem a3Q bm pv bt bs ps pm d its room now T L fr pg (l : Rep its now T) (m : T.length ≤ room) (n : room ≤ 4) (h : MOk fr pg d L T) : sP W0 350 [.pointer (some ⟨bm, 0, none⟩)] (pt bm (cD pv bt bs) :: aU bt (its, cX room now) :: bG bs L :: pt pv (bW ps pm d) :: R) (fun v B => ∃ k a, v = .int .i64 k ∧ B = pt bm (cD pv bt bs) :: aU bt (a, cX room now) :: bG bs [] :: pt pv (bW ps pm 0) :: R ∧ Rep a now [] ∧ MOk fr pg 0 [] []) := by
 refine ju 9 func350 ntmps350 ?_;refine dV 2 (gU zE rfl (wi bm pv bt bs)) ?_;refine aA rfl (fun i => ?_) fun i => ?_;exact absurd i (by decide);refine au 5 ?_;refine aD rfl (lM H3 rfl (F5 bm pv bt bs ps pm d its (.int .i64 room) (.int .i64 now) now room T L fr pg l m n h)) ?_;rintro _ o ⟨rfl, c, p, q, b, e, r, j, _⟩;subst b;have s := e.length;have t := j.ti.len;refine au 8 ?_;refine aD rfl (gU call400 rfl (a1C bt c (.int .i64 room) (.int .i64 now) now p e (by omega))) ?_;rintro _ o ⟨rfl, f, b, g⟩;subst b;refine au 8 ?_;refine dV 4 (gU call401 rfl (a2b bs q (by omega))) ?_;refine ac ?_;exact ⟨_, ⟨_, f, rfl, rfl, g, j.flush⟩, IO⟩
structure Mu where
  pv : Nat
  ps : Nat
  pm : Nat
  bud : Nat
  fr : List aB
  pg : List Pl
def gZ (bm : Nat) (x : Mu) : HP := chk (fun C => ∃ bt bs its T L now d, Rep its now T ∧ T.length ≤ 4 ∧ now ≤ x.bud ∧ MOk x.fr x.pg d L T ∧ C = [pt bm (cD x.pv bt bs), aU bt (its, cX 4 now), bG bs L, pt x.pv (bW x.ps x.pm d), pt x.pm (bB x.pg)])
section
variable {P : Program} {W0 : World} {N : FSz} {K : Act → World → Prop} {e : b0} {R : List HP} {bm pv ps pm bud : Nat} {fr : List aB} {pg : List Pl} {f : FuncId} {args : List Value} {Post : Value → List HP → Prop}
theorem qT (h : ∀ c e b T L a d, Rep b a T → T.length ≤ 4 → a ≤ bud → MOk fr pg d L T → bE P W0 f args (pt bm (cD pv c e) :: aU c (b, cX 4 a) :: bG e L :: pt pv (bW ps pm d) :: pt pm (bB pg) :: R) Post) : bE P W0 f args (gZ bm ⟨pv, ps, pm, bud, fr, pg⟩ :: R) Post :=
  qf fun C g => by obtain ⟨c, e, b, T, L, a, d, i, j, k, l, rfl⟩ := g; exact h c e b T L a d i j k l
theorem ou {bt bs now d its T L} (a : Rep its now T) (b : T.length ≤ 4) (c : now ≤ bud) (e : MOk fr pg d L T) : Ent (pt bm (cD pv bt bs) :: aU bt (its, cX 4 now) :: bG bs L :: pt pv (bW ps pm d) :: pt pm (bB pg) :: R) (gZ bm ⟨pv, ps, pm, bud, fr, pg⟩ :: R) :=
  fH (R := R) (C := [_, _, _, _, _]) ⟨bt, bs, its, T, L, now, d, a, b, c, e, rfl⟩
end
theorem LS {n pg pa w kind} (h : dB n pg pa w kind = 0) : aK pg (pa / 64 : Nat) = true := by
 grind [dB, fp]
section
variable (W0 : World) (R : List HP) (bm pv ps pm bud : Nat) (fr : List aB) (pg : List Pl)
theorem LU (j : ∀ A, bC (aQ W0 A) 1 0 j9) (t : bud < 800000) on root user (a : Nat) (i : a < 4294967296) w kind :
    bE Tryz.prog W0 207 [pV bm, .agg (qy on root user).toArray, .int .u32 a, .int .i64 w, .int .i64 kind] (gZ bm ⟨pv, ps, pm, bud, fr, pg⟩ :: aY ps fr :: R)
      (fun v B => v = .tuple #[wV (pi fr pg on root user a w kind), .int .i64 (lT fr pg on root user a w kind)] ∧ B = gZ bm ⟨pv, ps, pm, bud + 3, fr, pg⟩ :: aY ps fr :: R) := by
 refine qT fun b c e T L f d k l u m => ?_;refine ub (B := pt bm (cD pv b c) :: aU b (e, cX 4 f) :: bG c L :: fA pv ps pm d fr pg R) inferInstance ?_;refine ge (a3L W0 R j bm pv b c ps pm d on root user a i w kind e 4 f T L fr pg k l (by decide) (by omega) m) fun v B n => ?_;obtain ⟨rfl, g, x, o, h, p, q, r, s, y, rfl⟩ := n;refine ⟨_, ⟨rfl, rfl⟩, ?_⟩;exact Ent.trans (B := pt bm (cD pv b c) :: aU b (g, cX 4 h) :: bG c o :: pt pv (bW ps pm p) :: pt pm (bB pg) :: aY ps fr :: R) inferInstance (ou q r (by omega) s)
theorem a3R (j : ∀ A, bC (aQ W0 A) 1 0 j9) (u : bud < 800000) on root user (a : Nat) (i : a < 4294967296) w (x : Nat) (k : x < 4294967296) :
    bE Tryz.prog W0 349 [pV bm, .agg (qy on root user).toArray, .int .u32 a, .int .i64 w, .int .u32 x] (gZ bm ⟨pv, ps, pm, bud, fr, pg⟩ :: aY ps fr :: R)
      (fun v B => v = .int .i64 (lT fr pg on root user a w 2) ∧ B = gZ bm ⟨pv, ps, pm, bud + 3, lU fr pg on root user a w x, pg⟩ :: aY ps (lU fr pg on root user a w x) :: R) := by
 refine qT fun b c e T L f d l m y n => ?_;refine ub (B := pt bm (cD pv b c) :: aU b (e, cX 4 f) :: bG c L :: fA pv ps pm d fr pg R) inferInstance ?_;refine ge (a3N W0 R j bm pv b c ps pm d on root user a i w x k e 4 f T L fr pg l m (by decide) (by omega) n) fun v B o => ?_;obtain ⟨rfl, g, z, p, h, q, r, s, t, C, rfl⟩ := o;refine ⟨_, ⟨rfl, rfl⟩, ?_⟩;exact Ent.trans (B := pt bm (cD pv b c) :: aU b (g, cX 4 h) :: bG c p :: pt pv (bW ps pm q) :: pt pm (bB pg) :: aY ps (lU fr pg on root user a w x) :: R) inferInstance (ou r s (by omega) t)
theorem a3S : bE Tryz.prog W0 350 [pV bm] (gZ bm ⟨pv, ps, pm, bud, fr, pg⟩ :: R) (fun v B => ∃ k, v = .int .i64 k ∧ B = gZ bm ⟨pv, ps, pm, bud, fr, pg⟩ :: R) := by
 refine qT fun e f a T L b d g h i j => ?_;refine ge (a3Q bm pv e f ps pm d a 4 b T L fr pg g h (by decide) j) fun v B l => ?_;obtain ⟨k, c, rfl, rfl, m, n⟩ := l;exact ⟨_, ⟨k, rfl, rfl⟩, ou m (by decide) i n⟩
theorem a3T (a : Nat) (i : a < 4294967296) w (x : Nat) (l : x < 4294967296) :
    bE Tryz.prog W0 55 [pV pv, .int .u32 a, .int .i64 w, .int .u32 x] (gZ bm ⟨pv, ps, pm, bud, fr, pg⟩ :: aY ps fr :: R)
      (fun v B => v = .int .i64 (dB fr.length pg a w 2) ∧ B = gZ bm ⟨pv, ps, pm, bud, kN fr pg a w x, pg⟩ :: aY ps (kN fr pg a w x) :: R) := by
 refine qT fun g h c T L f d m o p b => ?_;refine ub (B := pt pv (bW ps pm d) :: aY ps fr :: pt pm (bB pg) :: pt bm (cD pv g h) :: aU g (c, cX 4 f) :: bG h L :: R) inferInstance ?_;refine ge (Iv pv ps pm d fr pg b.P b.F b.dl a i w x l) fun v B r => ?_;obtain ⟨rfl, rfl⟩ := r;refine ⟨_, ⟨rfl, rfl⟩, ?_⟩;refine Ent.trans (B := pt bm (cD pv g h) :: aU g (c, cX 4 f) :: bG h L :: pt pv (bW ps pm (pI fr pg a w d)) :: pt pm (bB pg) :: aY ps (kN fr pg a w x) :: R) inferInstance (ou m o p ?_);unfold kN pI;split
 rename_i k
 obtain ⟨A, C, D⟩ := xq k;have j : d ||| 2 ^ (a / 64) < 4096 := Qcd (n := 12) b.dl (Dw (by omega))
 exact b.save (LS k) ((a % 64 : Nat) : Int) w x j (fun t q => (Bq q).1) (fun y s t u z e => by
  have E := (b.ln y s).own;have G := (Bq z).2
  rcases u with rfl | rfl <;> omega)
 exact b
end
structure VIt where
  n : Int
  p : Int
  s : Int
  hs : 0 ≤ s ∧ s < 10000000000000000000
instance : Hk VIt where
  default := ⟨0, 0, 0, by decide⟩
  ky := fun x => x.s - x.p * 100000000000000000000
@[reducible] def gB (x : VIt) : List Value := [.int .i64 x.n, .int .i64 x.p, .int .i64 x.s]
theorem lv x : (gB x).length = 3 := rfl
theorem tj (a : List VIt) sp i (b : i < a.length) : ((a.flatMap gB ++ sp).drop (i * 3)).take 3 = gB (a.getD i default) := by
 simp_all [q9, lv, List.getD]
theorem Br (a : List VIt) sp i x (b : i < a.length) : d7 (a.flatMap gB ++ sp) (i * 3) (gB x) = (a.set i x).flatMap gB ++ sp := vq lv a i x sp b
theorem Bs (a : List VIt) sp i (b : i < a.length) : i * 3 + 3 ≤ (a.flatMap gB ++ sp).length := by
 rw [Qaf, cJ lv]; omega
theorem LV {a : List VIt} {i} (h : i < a.length) : a ≠ [] := fun e => by rw [e] at h; simp at h
abbrev ej : Nat → List VIt × List Value → HP := nF 177 331 3 gB 32
abbrev rU (b : Nat) : Value := .pointer (some ⟨b, 32, none⟩)
theorem LW b its cs : sQ W0 280 [rU b] (ej b (its, cs) :: R) (iQ its.length) (ej b (its, cs) :: R) := by
 refine sN fun a c d => ?_;refine am func280 ntmps280 ?_;refine aa (aE (aI (eL d))) ?_;refine ac ?_;exact ⟨_, ⟨rfl, rfl⟩, nG rfl rfl d rfl⟩
theorem a3U b its cs (i k : Nat) (o : i < its.length) (t : k < its.length) : sQ W0 501 [rU b, iQ i, iQ k] (ej b (its, cs) :: R) (.bool (decide (Hp.us its i < Hp.us its k))) (ej b (its, cs) :: R) := by
 refine qB lv (LV o) (by decide) fun g c u f h j l => ?_;obtain ⟨x, v⟩ : ∃ x, its.getD i default = x := ⟨_, rfl⟩
 obtain ⟨y, w⟩ : ∃ y, its.getD k default = y := ⟨_, rfl⟩
 have d := tj its u i o;have e := tj its u k t;rw [v] at d;rw [w] at e;have m : Hp.us its i = x.s - x.p * 100000000000000000000 := by rw [Hp.us, v]; rfl
 have n : Hp.us its k = y.s - y.p * 100000000000000000000 := by rw [Hp.us, w]; rfl
 have A := x.hs;have B := y.hs;refine lL func501 ntmps501 rfl rfl ?_;refine aO (aX (ae rfl (bA rfl) (aL (aH (aO ?_)))));refine fj [(b, 0, _), (g, i * 3, gB x), (g, k * 3, gB y)] 18 mixed rfl (bQ (bU (cV d rfl) (bU (cV e rfl) bH))) (fun a => ?_);refine aj 0 3 a ?_;refine ax 3 a (aE (dm (k := 0) rfl (eL f))) ?_;refine aj 4 1 a ?_;refine ax 5 a (bJ o) ?_;refine dp 6 rfl rfl rfl a (iD Nr zf rfl (jN (k := 1) rfl) rfl) ?_;refine dp 7 rfl rfl rfl a (aM rfl) ?_;refine dp 8 rfl rfl rfl a (kI rfl) ?_;refine dp 9 rfl rfl rfl a (d5 rfl a8f rfl sizeOf173 rfl (by first | exact Qac _ | rfl)) ?_;refine ax 10 a (aE (dm (k := 0) rfl (eL f))) ?_;refine aj 11 1 a ?_;refine ax 12 a (bJ t) ?_;refine dp 13 rfl rfl rfl a (iD Nr zf rfl (jN (k := 2) rfl) rfl) ?_;refine fG (is := [14, 15]) (by kernel_rfl) rfl ⟨?_, ?_, trivial⟩;refine dy (dx wK) ?_; clear a;rintro _ _ ⟨z, rfl, rfl⟩;refine ⟨(bQ (bU (cV d rfl) (bU (cV e rfl) bH))), fun a => ?_⟩;refine cj 15 (dx wK) ?_; clear a;rintro _ _ ⟨q, rfl, rfl⟩;refine ⟨(bQ (bU (cV d rfl) (bU (cV e rfl) bH))), fun a => ?_⟩;refine m8 16 rfl rfl aF (bQ (bU (cV d rfl) (bU (cV e rfl) bH))) fun a => ?_;refine m8 17 rfl rfl aF (bQ (bU (cV d rfl) (bU (cV e rfl) bH))) fun a => ?_;refine aJ ?_;refine ai (fun r => ?_) fun r => ?_;refine ac ?_;rw [m, n];refine ⟨_, ⟨Qai Value.bool ?_, rfl⟩, kC lv rfl rfl f rfl h j l⟩;rw [Qag, Qak, Qak];have : x.p ≠ y.p := by omega
 omega;refine ac ?_;rw [m, n];refine ⟨_, ⟨Qai Value.bool ?_, rfl⟩, kC lv rfl rfl f rfl h j l⟩;rw [Qag, Qak, Qak];have : x.p = y.p := by omega
 omega;skip;refine dy (dx wK) ?_; clear a;rintro _ _ ⟨q, rfl, rfl⟩;refine ⟨(bQ (bU (cV d rfl) (bU (cV e rfl) bH))), fun a => ?_⟩;refine cj 14 (dx wK) ?_; clear a;rintro _ _ ⟨z, rfl, rfl⟩;refine ⟨(bQ (bU (cV d rfl) (bU (cV e rfl) bH))), fun a => ?_⟩;refine m8 16 rfl rfl aF (bQ (bU (cV d rfl) (bU (cV e rfl) bH))) fun a => ?_;refine m8 17 rfl rfl aF (bQ (bU (cV d rfl) (bU (cV e rfl) bH))) fun a => ?_;refine aJ ?_;refine ai (fun r => ?_) fun r => ?_;refine ac ?_;rw [m, n];refine ⟨_, ⟨Qai Value.bool ?_, rfl⟩, kC lv rfl rfl f rfl h j l⟩;rw [Qag, Qak, Qak];have : x.p ≠ y.p := by omega
 omega;refine ac ?_;rw [m, n];refine ⟨_, ⟨Qai Value.bool ?_, rfl⟩, kC lv rfl rfl f rfl h j l⟩;rw [Qag, Qak, Qak];have : x.p = y.p := by omega
 omega
theorem a3V b its cs (i k : Nat) (e : i < its.length) (h : k < its.length) : sQ W0 504 [rU b, iQ i, iQ k] (ej b (its, cs) :: R) (.tuple #[]) (ej b (Hp.swapL its i k, cs) :: R) := by
 refine qB lv (LV e) (by decide) fun g c d f m l j => ?_;refine am func504 ntmps504 ?_;refine bq [b] 28 fun a => ?_;refine aj 0 3 a ?_;refine ax 3 a (aE (dm (k := 0) rfl (eL f))) ?_;refine aj 4 4 a ?_;refine ax 8 a (aE (dm (k := 0) rfl (eL f))) ?_;refine aj 9 4 a ?_;refine ax 13 a (aE (dm (k := 0) rfl (eL f))) ?_;refine aj 14 1 a ?_;refine ax 15 a (bJ h) ?_;refine aj 17 3 a ?_;refine ax 20 a (aE (dm (k := 0) rfl (eL f))) ?_;refine aj 21 1 a ?_;refine ax 22 a (bJ e) ?_;refine fG (is := [16, 23]) (by kernel_rfl) rfl ⟨?_, ?_, trivial⟩;refine dy (dP (df (cV (tj its d k h) rfl))) ?_; clear a;rintro _ _ ⟨rfl, rfl⟩;refine ⟨aT, fun a => ?_⟩;refine cg 23 (dP (df (cV (tj its d i e) rfl))) fun a => ?_;refine ax 24 a (bJ e) ?_;refine cp 25 (iH (Bs its d i e) (Br its d i (its.getD k default) e)) fun a => ?_;refine ax 26 a (bJ h) ?_;refine cp 27 (iH (Bs (its.set i (its.getD k default)) d k (by grind)) (Br (its.set i (its.getD k default)) d k (its.getD i default) (by grind))) fun a => ?_;refine aJ ?_;refine bX (.inr rfl) .nil ?_;exact ⟨_, ⟨rfl, rfl⟩, kC lv rfl rfl f (by simp [Hp.swapL]) (by omega) l (by rw [Qaf, cJ lv] at j ⊢; simpa [Hp.swapL] using j)⟩;skip;refine dy (dP (df (cV (tj its d i e) rfl))) ?_; clear a;rintro _ _ ⟨rfl, rfl⟩;refine ⟨aT, fun a => ?_⟩;refine cg 16 (dP (df (cV (tj its d k h) rfl))) fun a => ?_;refine ax 24 a (bJ e) ?_;refine cp 25 (iH (Bs its d i e) (Br its d i (its.getD k default) e)) fun a => ?_;refine ax 26 a (bJ h) ?_;refine cp 27 (iH (Bs (its.set i (its.getD k default)) d k (by grind)) (Br (its.set i (its.getD k default)) d k (its.getD i default) (by grind))) fun a => ?_;refine aJ ?_;refine bX (.inr rfl) .nil ?_;exact ⟨_, ⟨rfl, rfl⟩, kC lv rfl rfl f (by simp [Hp.swapL]) (by omega) l (by rw [Qaf, cJ lv] at j ⊢; simpa [Hp.swapL] using j)⟩
theorem a3W b its x cs : sQ W0 502 [rU b] (ej b (its ++ [x], cs) :: R) (.iface 331 (.agg (gB x).toArray)) (ej b (its, cs) :: R) := by
 refine qB lv (by simp) (by decide) fun g c d a i e j => ?_;have k : (its ++ [x]).length = its.length + 1 := by simp
 rw [k] at i ⊢;have l : (its ++ [x]).getD its.length default = x := by grind
 have f := tj (its ++ [x]) d its.length (by omega);rw [l] at f;have h : (its ++ [x]).flatMap gB ++ d = its.flatMap gB ++ (gB x ++ d) := by simp
 refine am func502 ntmps502 ?_;refine aa (aE (aI (eL a))) ?_;refine aa (lg rfl rfl (by rw [co (by simp only [maxLen] at e; omega)]; omega : IntKind.wrap .i64 (((its.length + 1 : Nat) : Int) - 1) = ((its.length : Nat) : Int))) ?_;refine aa (aE (aI (eL a))) ?_;refine aa (bJ (by omega)) ?_;refine aa (df (cV f rfl)) ?_;refine bj fun m => ?_;refine ar aF ?_;refine aa (aE (aI (eL a))) ?_;refine aa (oL zj zf rfl rfl rfl (by omega)) ?_;refine ar (dq (by rw [Qap]; exact a) set_set) ?_;refine ac ?_;rw [h];exact ⟨_, ⟨rfl, rfl⟩, kC (sp := gB x ++ d) lv rfl rfl a rfl (by omega) e (by rw [← h]; exact j)⟩
theorem a3X b its x cs (k : its.length < 1000) : sQ W0 503 [rU b, .iface 331 (.agg (gB x).toArray)] (ej b (its, cs) :: R) (.tuple #[]) (ej b (its ++ [x], cs) :: R) := by
 refine sN fun a c e => ?_;have f : its.flatMap gB ++ [gB x].flatten = (its ++ [x]).flatMap gB := by simp
 refine lL func503 ntmps503 rfl rfl ?_;refine bq [] 12 fun d => ?_;refine aj 0 4 d ?_;refine aj 5 1 d ?_;refine ax 6 d (sx NQ (fun _ h => by cases h) rfl) ?_;refine fG (is := [4, 7]) (by kernel_rfl) rfl ⟨?_, ?_, trivial⟩;refine dy (dP (aE (aI (eL e)))) ?_; clear d;rintro _ _ ⟨rfl, rfl⟩;refine ⟨aT, fun d => ?_⟩;refine kl 7 (by kernel_rfl) rfl rfl (iG zj zf wK rfl (fm rfl rfl i5) rfl (by decide) (by decide) (by decide)) rfl ?_; clear d;rintro _ _ ⟨g, rfl, rfl⟩;refine ⟨aT, fun d => ?_⟩;refine cj 8 (et (sz := 3) (by_ := 24) (info := Tryz.t331) zj (by kernel_rfl) rfl rfl rfl rfl (by decide) rfl rfl ee rfl rfl (by simp only [maxLen]; omega) (by omega)) ?_; clear d;rintro _ _ ⟨i, j, rfl, rfl⟩;refine ⟨aT, fun d => ?_⟩;refine aj 9 2 d ?_;refine cp 11 (dq (by grind) set_set) fun d => ?_;refine i6 ?_;refine bX (.inr rfl) .nil ?_;exact ⟨_, ⟨rfl, rfl⟩, nG (its := its ++ [x]) f rfl e (by simp)⟩;skip;refine nT rfl rfl (iG zj zf wK rfl (fm rfl rfl i5) rfl (by decide) (by decide) (by decide)) rfl ?_; clear d;rintro _ _ ⟨g, rfl, rfl⟩;refine ⟨aT, fun d => ?_⟩;refine cg 4 (dP (aE (aI (eL e)))) fun d => ?_;refine cj 8 (et (sz := 3) (by_ := 24) (info := Tryz.t331) zj (by kernel_rfl) rfl rfl rfl rfl (by decide) rfl rfl ee rfl rfl (by simp only [maxLen]; omega) (by omega)) ?_; clear d;rintro _ _ ⟨i, j, rfl, rfl⟩;refine ⟨aT, fun d => ?_⟩;refine aj 9 2 d ?_;refine cp 11 (dq (by grind) set_set) fun d => ?_;refine aJ ?_;refine bX (.inr rfl) .nil ?_;exact ⟨_, ⟨rfl, rfl⟩, nG (its := its ++ [x]) f rfl e (by simp)⟩
section
variable (w : World) (a : Addr)
theorem a3Y : (method (Tryz.prog.types.size + Made.depth) 329 (.pointer (some a)) "Len").run Tryz.prog w = .ok (280, .pointer (some a)) w := by kernel_rfl
theorem a3Z : (method (Tryz.prog.types.size + Made.depth) 329 (.pointer (some a)) "Less").run Tryz.prog w = .ok (501, .pointer (some a)) w := by kernel_rfl
theorem a30 : (method (Tryz.prog.types.size + Made.depth) 329 (.pointer (some a)) "Swap").run Tryz.prog w = .ok (504, .pointer (some a)) w := by kernel_rfl
theorem a31 : (method (Tryz.prog.types.size + Made.depth) 329 (.pointer (some a)) "Push").run Tryz.prog w = .ok (503, .pointer (some a)) w := by kernel_rfl
theorem a32 : (method (Tryz.prog.types.size + Made.depth) 329 (.pointer (some a)) "Pop").run Tryz.prog w = .ok (502, .pointer (some a)) w := by kernel_rfl
end
def Fp (W0 : World) (b : Nat) (cs : List Value) : HpO W0 VIt where
  T := 329
  p := rU b
  el := fun x => .iface 331 (.agg (gB x).toArray)
  H := fun l => ej b (l, cs)
  fL := 280
  fE := 501
  fS := 504
  fU := 503
  fO := 502
  mL := fun u => a3Y u _
  mE := fun u => a3Z u _
  mS := fun u => a30 u _
  mU := fun u => a31 u _
  mO := fun u => a32 u _
  cL := call280
  cE := call501
  cS := call504
  cU := call503
  cO := call502
  sL := fun R l => LW b l cs
  sE := fun R l i j hi hj => a3U b l cs i j hi hj
  sS := fun R l i j hi hj => a3V b l cs i j hi hj
  sU := fun R l x hl => a3X b l x cs hl
  sO := fun R l x => a3W b l x cs
theorem a33 b its x cs (c : its.length < 900) (d : Hp.Heap its its.length) : sP W0 138 [.iface 329 (rU b), .iface 331 (.agg (gB x).toArray)] (ej b (its, cs) :: R) (fun v B => v = .tuple #[] ∧ ∃ a, B = ej b (a, cs) :: R ∧ a.Perm (its ++ [x]) ∧ Hp.Heap a a.length) :=
  Hp.heapPush_spec (Fp W0 b cs) R its x c d
theorem a34 b its cs (c : its.length < 900) (d : its ≠ []) (e : Hp.Heap its its.length) : sP W0 192 [.iface 329 (rU b)] (ej b (its, cs) :: R) (fun v B => ∃ x a, v = .iface 331 (.agg (gB x).toArray) ∧ B = ej b (a, cs) :: R ∧ (a ++ [x]).Perm its ∧ Hp.Heap a a.length ∧ ∀ y ∈ its, Hk.ky x ≤ Hk.ky y) :=
  Hp.heapPop_spec (Fp W0 b cs) R its c d e
namespace Hp
variable {W0 : World} {α : Type} [Hk α] (o : HpO W0 α)
theorem heapRemove_spec (R : List HP) (its : List α) (i : Nat) (hN : its.length < 900) (hi : i < its.length) (hh : Heap its its.length) : sP W0 271 [iv o, iQ i] (kH 0 (o.H its) :: R) (fun v B => ∃ its', v = o.el (its.getD i default) ∧ B = kH 0 (o.H its') :: R ∧ (its' ++ [its.getD i default]).Perm its ∧ Heap its' its'.length) := by
 obtain ⟨n, hn⟩ : ∃ n, its.length = n + 1 := ⟨its.length - 1, by omega⟩
 have hs : i ≠ n → jy (swapL its i n) i n := fun hin c hc h0 => ⟨fun h1 h2 => by
  rw [kP (by omega) (by omega), kP (by omega) (by omega), Qaa h2, Qaa h1, Qaa (by omega), Qaa (by omega)]
  exact hh c (by omega) h0, fun h1 h2 => by
  rw [kP (by omega) (by omega), kP (by omega) (by omega), Qaa (by omega), Qaa (by omega), Qaa (by omega), Qaa (by omega)]
  have k1 := hh c (by omega) h0
  have k2 := hh i (by omega) h2
  rw [h1] at k1; omega⟩
 have hsl := xE its i n
 have fin : ∀ l : List α, l.Perm its → Heap l n → l.getD n default = its.getD i default → ∃ l', l = l' ++ [its.getD i default] ∧ l'.length = n ∧ Heap l' l'.length := fun l hp hH hx => by
  have := hp.length_eq
  obtain ⟨l', x, rfl, hl', hx'⟩ := xO (l := l) (n := n) (by omega)
  rw [hx] at hx'; subst hx'
  exact ⟨l', rfl, hl', by rw [hl']; exact xP hH (by omega)⟩
 have hend : i ≠ n → (swapL its i n).getD n default = its.getD i default := fun h => by
  rw [rL (by omega) (by omega), Qaa (by omega), Qad rfl]
 refine am func271 ntmps271 ?_
 refine ah (fz rfl o.mL o.cL rfl (o.sL _ its)) ?_
 refine aa (nU n) ?_
 refine ai (fun c2 => ?_) fun c2 => ?_
 have hin : i ≠ n := by omega
 refine ah (fz rfl o.mS o.cS rfl (o.sS _ its i n (by omega) (by omega))) ?_
 refine aD rfl (ap zt (vT o _ (swapL its i n) i n (by omega) (by omega) (by omega) (hs hin))) ?_
 rintro _ _ ⟨l, m, rfl, rfl, hD⟩
 have hll := hD.perm.length_eq
 refine aw ?_
 refine ai (fun c4 => ?_) fun c4 => ?_
 have hm : m = false := by simpa using c4
 obtain ⟨rfl, hmin⟩ := hD.no hm
 refine aD rfl (ap Cr (vS o _ (swapL its i n) i n (by omega) (by omega) (by omega) (Aq (hs hin) hmin))) ?_
 rintro _ _ ⟨rfl, l, rfl, hp, hH, ht⟩
 obtain ⟨l', rfl, hl', hH⟩ := fin l (hp.trans (lO (by omega) (by omega))) hH ((ht n (Qam _)).trans (hend hin))
 replace hp := hp.trans (lO (by omega) (by omega))
 generalize its.getD i default = x at hp ⊢
 refine aw ?_
 refine ah (fz rfl o.mO o.cO rfl (o.sO _ l' x)) ?_
 refine ac ?_
 exact ⟨_, ⟨l', rfl, rfl, by first | exact hp | exact QaN _, hH⟩, IO⟩
 have hm : m = true := by simpa using c4
 obtain ⟨l', rfl, hl', hH⟩ := fin l (hD.perm.trans (lO (by omega) (by omega))) (hD.yes hm) ((hD.tail n (Qam _)).trans (hend hin))
 have hp := hD.perm.trans (lO (l := its) (i := i) (j := n) (by omega) (by omega))
 generalize its.getD i default = x at hp ⊢
 refine ah (fz rfl o.mO o.cO rfl (o.sO _ l' x)) ?_
 refine ac ?_
 exact ⟨_, ⟨l', rfl, rfl, by first | exact hp | exact QaN _, hH⟩, IO⟩
 obtain rfl : n = i := by omega
 obtain ⟨l', hl, hl', hH⟩ := fin its (QaN _) (E7 hh (by omega)) rfl
 have hp : (l' ++ [its.getD n default]).Perm its := by rw [← hl]
 generalize hx : its.getD n default = x at hl hp ⊢
 rw [hl]
 refine ah (fz rfl o.mO o.cO rfl (o.sO _ l' x)) ?_
 refine ac ?_
 exact ⟨_, ⟨l', rfl, rfl, by first | exact hp | exact QaN _, hH⟩, IO⟩
end Hp
structure Li where
  w : Bool
  m : Bool
  p : Int
  s : Int
  hs : 0 ≤ s ∧ s < 10000000000000000000
instance : Inhabited Li := ⟨⟨false, false, 0, 0, by decide⟩⟩
@[reducible] def mq (x : Li) : List Value := [.bool x.w, .bool x.m, .int .i64 x.p, .int .i64 x.s]
theorem pO x : (mq x).length = 4 := rfl
def dF (ls : List Li) (now : Int) : List Value := ls.flatMap mq ++ [.slice none 0 0, .int .i64 now, .bool true]
theorem yC {ls now} (h : ls.length = 8) : (dF ls now).length = 35 := by
 rw [dF, Qaf, cJ pO, h]; rfl
theorem a35 {ls now} (h : ls.length = 8) : (dF ls now)[34]? = some (.bool true) := by
 rw [dF, Qbn (by rw [cJ pO, h]; decide), cJ pO, h]; rfl
theorem LX {ls now} (h : ls.length = 8) : (dF ls now)[33]? = some (iQ now) := by
 rw [dF, Qbn (by rw [cJ pO, h]; decide), cJ pO, h]; rfl
theorem a36 {ls now n j} (a : n < ls.length) (b : j < 4) : (dF ls now)[n * 4 + j]? = (mq (ls.getD n default))[j]? := by
 simp_all [dF, mG, pO]
theorem Fq {W0 A R T E sz o b off α f} {its : List α} {cs vs} [hk : Tk (nF T E sz f o) b A (its, cs) R] (h : ∀ j v, vs[j]? = some v → off + j ≠ o ∧ cs[off + j]? = some v) : bC (aQ W0 A) b off vs :=
  fun j v a => xN (o := o) (f := f) (T := T) (E := E) (sz := sz) (h j v a).1 (h j v a).2
theorem Fs b its ls now (h : ls.length = 8) : sQ W0 84 [pV b] (ej b (its, dF ls now) :: R) (.bool false) (ej b (its, dF ls now) :: R) := by
 refine am func84 ntmps84 ?_;refine cy rfl rfl rfl (fun a => ?_) fun a => ?_;cases a;refine aw ?_;refine aa (aE (xN (b := b) (T := 177) (E := 331) (sz := 3) (f := gB) (o := 32) (by decide) (a35 h))) ?_;exact ac ao
def gr (n : Int) : Bool := decide (0 ≤ n ∧ n < 8)
theorem Ft b its ls now (h : ls.length = 8) n : sQ W0 112 [pV b, iQ n] (ej b (its, dF ls now) :: R) (iQ (if gr n then 0 else 1)) (ej b (its, dF ls now) :: R) := by
 refine am func112 ntmps112 ?_;refine ah (ap OB (Fs b its ls now h)) ?_;refine ai (fun a => ?_) fun a => ?_;refine ac ?_;rw [Qaa (by grind [gr])];exact ao;refine ai (fun c => ?_) fun c => ?_;refine ac ?_;rw [Qaa (by grind [gr])];exact ao;refine ac ?_;rw [Qad (by grind [gr])];exact ao
theorem a37 b its cs (i : Nat) (c : its.length < 900) (d : i < its.length) (e : Hp.Heap its its.length) : sP W0 271 [.iface 329 (rU b), iQ i] (ej b (its, cs) :: R) (fun v B => ∃ a, v = .iface 331 (.agg (gB (its.getD i default)).toArray) ∧ B = ej b (a, cs) :: R ∧ (a ++ [its.getD i default]).Perm its ∧ Hp.Heap a a.length) :=
  Hp.heapRemove_spec (Fp W0 b cs) R its i c d e
theorem LY {its' its} {x : VIt} {n} (c : (its' ++ [x]).Perm its) (d : x.n = n) (a : (its.map (·.n)).Nodup) : its'.Perm (its.filter fun y => y.n != n) := by
 have b := c.filter (fun y => y.n != n);have f : ((its' ++ [x]).map (·.n)).Nodup := (c.map (·.n)).symm.nodup a;have g : ∀ y ∈ its', (y.n != n) = true := fun y h => by
  rw [QaH, Qbp] at f;have := f.2.2 _ (QbQ h) _ (Qbh.2 rfl);simp only [QbO, ne_eq];intro e; exact this (by rw [e, ← d])
 rw [QbG, QaT.2 g] at b;have i : [x].filter (fun y => y.n != n) = [] := by simp [d]
 rw [i, Qav] at b;exact b
theorem a38 b its ls now (h : ls.length = 8) n (C : its.length < 900) (l : Hp.Heap its its.length) (m : (its.map (·.n)).Nodup) : sP W0 190 [pV b, iQ n] (ej b (its, dF ls now) :: R) (fun v B => v = .tuple #[] ∧ ∃ d, B = ej b (d, dF ls now) :: R ∧ d.Perm (its.filter fun y => y.n != n) ∧ Hp.Heap d d.length) := by
 by_cases q : its = [];subst q;refine sN fun a c f => ?_;refine am func190 ntmps190 ?_;refine aa (aE (aI (eL f))) ?_;refine d4 (fun _ : Unit => True) (fun _ => [(11, iQ 0), (12, iQ 0)]) (fun _ => pt b (ag ((dF ls now).set 32 (.slice a ([] : List VIt).length c)) 177) :: osl 331 3 (.slice a ([] : List VIt).length c) (([] : List VIt).flatMap gB) :: R) (fun _ => 0) () ?_ ?_;trivial;intro _ _;refine aw ?_;refine aA rfl (fun o => ?_) fun o => ?_;omega;refine aw ?_;refine bX (.inr rfl) .nil ?_;exact ⟨_, ⟨rfl, [], rfl, QaN _, l⟩, nG rfl rfl f rfl⟩;refine qB lv q (by decide) fun g c r f s t u => ?_;refine am func190 ntmps190 ?_;refine aa (aE (aI (eL f))) ?_;refine d4 (fun k : Nat => k ≤ its.length ∧ ∀ j, j < k → (its.getD j default).n ≠ n) (fun k => [(0, pV b), (1, iQ n), (10, .slice (some ⟨g, 0, none⟩) its.length c), (11, iQ (its.length : Nat)), (12, iQ k)]) (fun k => pt b (ag ((dF ls now).set 32 (.slice (some ⟨g, 0, none⟩) its.length c)) 177) :: pt g (ag (its.flatMap gB ++ r) 331) :: R) (fun k => its.length - k) 0 ?_ ?_;grind;intro k ⟨I, D⟩;refine aw ?_;refine ai (fun o => ?_) fun o => ?_;have e : k < its.length := by omega
 obtain ⟨x, w⟩ : ∃ x, its.getD k default = x := ⟨_, rfl⟩
 have z := tj its r k e;rw [w] at z;refine aa (bJ e) ?_;refine aa (df (cV z rfl)) ?_;refine bj fun E => ?_;refine ar aF ?_;refine ai (fun F => ?_) fun F => ?_;refine eD (B := ej b (its, dF ls now) :: pt E (ag (gB x) 331) :: R) (kC lv rfl rfl f rfl s t u) ?_;refine aw ?_;refine aD rfl (ap call271 (a37 b its (dF ls now) k C e l)) ?_;rintro _ J ⟨d, rfl, p, A, G⟩;obtain rfl := p.symm;refine aw ?_;refine bX (.inl rfl) .nil ?_;rw [w] at A;exact ⟨_, ⟨rfl, d, rfl, LY A (by omega) m, G⟩, IO⟩;refine aa bY ?_;refine bR (k + 1) ?_;grind;refine bX (.inr rfl) .nil ?_;obtain rfl : k = its.length := by omega
 refine ⟨_, ⟨rfl, its, rfl, ?_, l⟩, kC lv rfl rfl f rfl s t u⟩;rw [QaT.2 fun y H => ?_];obtain ⟨j, i, rfl⟩ := Qbc.1 H;have := D j i;rw [Qas, QaV i] at this;simpa using this
theorem Fu {W0 A R b its ls now n} [a : Tk ej b A (its, dF ls now) R] (c : ls.length = 8) (g : n < 8) : bC (aQ W0 A) b (n * 4) (mq (ls.getD n default)) :=
  Fq (T := 177) (E := 331) (sz := 3) (o := 32) (f := gB) (its := its) (cs := dF ls now) (R := R) (hk := a) fun j v d => by
 have e : j < 4 := by
  grind
 exact ⟨by omega, (a36 (by omega) e).trans d⟩
def rV (n : Int) (x : Li) : List VIt := if x.w && !x.m then [⟨n, x.p, x.s, x.hs⟩] else []
theorem a39 b its ls now (h : ls.length = 8) (n : Nat) (q : n < 8) (C : its.length < 800) (r : Hp.Heap its its.length) (k : (its.map (·.n)).Nodup) : sP W0 113 [pV b, iQ n] (ej b (its, dF ls now) :: R) (fun v B => v = .tuple #[] ∧ ∃ c, B = ej b (c, dF ls now) :: R ∧ c.Perm ((its.filter fun y => y.n != (n : Int)) ++ rV n (ls.getD n default)) ∧ Hp.Heap c c.length) := by
 obtain ⟨x, t⟩ : ∃ x, ls.getD n default = x := ⟨_, rfl⟩
 rw [t];refine am func113 ntmps113 ?_;refine aD rfl (ap call190 (a38 b its ls now h (n : Int) (by omega) r k)) ?_;rintro _ u ⟨rfl, a, e, d, f⟩;obtain rfl := e.symm;have w : a.length ≤ its.length := by rw [d.length_eq]; exact QaM _ _
 have g : bC (aQ W0 (ej b (a, dF ls now) :: R)) b (n * 4) (mq x) := by grind [Fu]
 refine aw ?_;refine aa (ew q) ?_;refine aa (df g) ?_;refine bj fun z => ?_;refine ar aF ?_;refine bO (fun i => ?_) fun i => ?_;refine ai (fun A => ?_) fun A => ?_;refine bq [z] 12 fun l => ?_;refine aj 0 11 l ?_;refine cj 11 (ap GL (a33 b a ⟨n, x.p, x.s, x.hs⟩ (dF ls now) (by omega) f)) ?_; clear l;rintro _ u ⟨rfl, j, e, m, o⟩;obtain rfl := e.symm;refine ⟨aT, fun l => ?_⟩;refine aJ ?_;refine bX (.inr rfl) .nil ?_;refine ⟨_, ⟨rfl, j, rfl, ?_, o⟩, IO⟩;rw [rV, Qad (by simp_all)];exact m.trans (d.append_right _);refine bX (.inr rfl) .nil ?_;refine ⟨_, ⟨rfl, a, rfl, ?_, f⟩, IO⟩;rw [rV, Qaa (by simp_all), Qav];exact d;refine bX (.inr rfl) .nil ?_;refine ⟨_, ⟨rfl, a, rfl, ?_, f⟩, IO⟩;rw [rV, Qaa (by simp_all), Qav];exact d
theorem a4a {ls now x v} (h : ls.length = 8) : ((dF ls now).set 32 v).set 33 (iQ x) = (dF ls x).set 32 v := by
 have e : (ls.flatMap mq).length = 32 := by rw [cJ pO, h]
 have g : ∀ y : Int, (dF ls y).set 32 v = ls.flatMap mq ++ [v, iQ y, .bool true] := fun y => by
  rw [dF, QbB _ _ (by omega), e]; rfl
 rw [g, g, QbB _ _ (by omega), e]; rfl
theorem Fv {ls now v u n j y} (h : ls.length = 8) (c : n < 8) (a : j < 4) (b : mq y = (mq (ls.getD n default)).set j u) : ((dF ls now).set 32 v).set (n * 4 + j) u = (dF (ls.set n y) now).set 32 v := by
 rw [List.set_comm _ _ (by omega)];rw [dF, qd pO ls n j u y _ (by omega) a (by rw [b]; simp [List.getD, show n < ls.length by omega])];rfl
theorem Fw {W0 A R b ls now v} [c : Tk pt b A (ag ((dF ls now).set 32 v) 177) R] (h : ls.length = 8) : bC (aQ W0 A) b 33 [iQ now] := fun j u a => by
 match j, a with
 | 0, a =>
  rw [← Qbm a];exact aI (by rw [QaW (by decide)]; exact LX h)
 | j + 1, a => cases a
theorem a4b b its ls now (h : ls.length = 8) (n : Nat) (i : n < 8) (C : its.length < 800) (D : Hp.Heap its its.length) (j : (its.map (·.n)).Nodup) (t : (ls.getD n default).w = false) hb (F : 0 ≤ now ∧ now < 4611686018427387904) : sP W0 42 [pV b, iQ n] (ej b (its, dF ls now) :: R) (fun v B => v = iQ 0 ∧ ∃ d, B = ej b (d, dF (ls.set n ⟨true, (ls.getD n default).m, (ls.getD n default).p, now + 1, hb⟩) (now + 1)) :: R ∧ d.Perm ((its.filter fun y => y.n != (n : Int)) ++ rV n ⟨true, (ls.getD n default).m, (ls.getD n default).p, now + 1, hb⟩) ∧ Hp.Heap d d.length) := by
 obtain ⟨x, u⟩ : ∃ x, ls.getD n default = x := ⟨_, rfl⟩
 have l : n < ls.length := by omega
 have q : gr (n : Int) = true := by grind [gr]
 rw [u] at t ⊢;refine am OC ntmps42 ?_;refine jO (ap OD (Ft b its ls now h (n : Int))) ?_;rw [Qad q];have g : bC (aQ W0 (ej b (its, dF ls now) :: R)) b (n * 4) (mq x) := by grind [Fu]
 refine au 9 ?_;refine jf ?_;refine jP 1 (ew i) ?_;refine aa (aE (g 0 _ rfl)) ?_;refine ai (fun z => ?_) fun z => ?_;refine xM (b := b) (T := 177) (E := 331) (sz := 3) (f := gB) (o := 32) fun a c H => ?_;refine aw ?_;refine aa (aE (aI (by rw [QaW (by decide)]; exact LX h))) ?_;refine aa bY ?_;refine ar (dq (by grind [Qap, yC]) (a4a h)) ?_;refine fj [(b, 33, [iQ (now + 1)])] 18 mixed rfl (bU (Fw (by simp [h])) bH) (fun e => ?_);refine aj 0 7 e ?_;refine ax 7 e (aE (jt (k := 0) rfl)) ?_;refine aj 8 2 e ?_;refine ax 10 e (ew i) ?_;refine aj 11 1 e ?_;refine aj 13 2 e ?_;refine m8 12 rfl rfl (dq (by grind [yC]) (Fv (y := ⟨true, x.m, x.p, x.s, x.hs⟩) h i (by decide) (by rw [u]; rfl))) (bU (Fw (by simp [h])) bH) fun e => ?_;refine ax 15 e (ew i) ?_;refine aj 16 1 e ?_;refine m8 17 rfl rfl (dq (by grind [Qap, yC]) (Fv (y := ⟨true, x.m, x.p, now + 1, hb⟩) (by simp [h]) i (by decide) (by grind))) (bU (Fw (by simp [h])) bH) fun e => ?_;refine aJ ?_;rw [List.set_set];refine eD (B := ej b (its, dF (ls.set n ⟨true, x.m, x.p, now + 1, hb⟩) (now + 1)) :: R) (nG rfl rfl (by grind [yC]) rfl) ?_;refine aw ?_;refine aD rfl (ap call113 (a39 b its (ls.set n ⟨true, x.m, x.p, now + 1, hb⟩) (now + 1) (by simp [h]) n i C D j)) ?_;rintro _ I ⟨rfl, d, r, A, G⟩;obtain rfl := r.symm;rw [show (ls.set n ⟨true, x.m, x.p, now + 1, hb⟩).getD n default = ⟨true, x.m, x.p, now + 1, hb⟩ by simp [List.getD, l]] at A;refine aw ?_;refine ac ?_;exact ⟨_, ⟨rfl, d, rfl, A, G⟩, IO⟩;exact absurd (by rw [t]; decide) z
theorem a4c b its ls now (h : ls.length = 8) (n : Nat) (f : n < 8) (d : (ls.getD n default).w = true) : sQ W0 42 [pV b, iQ n] (ej b (its, dF ls now) :: R) (iQ 0) (ej b (its, dF ls now) :: R) := by
 obtain ⟨x, g⟩ : ∃ x, ls.getD n default = x := ⟨_, rfl⟩
 have c : gr (n : Int) = true := by grind [gr]
 rw [g] at d;refine am OC ntmps42 ?_;refine jO (ap OD (Ft b its ls now h (n : Int))) ?_;rw [Qad c];have a : bC (aQ W0 (ej b (its, dF ls now) :: R)) b (n * 4) (mq x) := by grind [Fu]
 refine au 9 ?_;refine jf ?_;refine jP 1 (ew f) ?_;refine aa (aE (a 0 _ rfl)) ?_;refine ai (fun e => ?_) fun e => ?_;exact absurd e (by rw [d]; decide);exact ac ao
theorem a4d b its ls now (h : ls.length = 8) n (c : gr n = false) : sQ W0 42 [pV b, iQ n] (ej b (its, dF ls now) :: R) (iQ 1) (ej b (its, dF ls now) :: R) := by
 refine am OC ntmps42 ?_;refine jO (ap OD (Ft b its ls now h n)) ?_;rw [Qaa (by grind)];refine aw ?_;refine ai (fun a => ?_) fun a => ?_;exact ac ao;exact absurd (by decide) a
end
section
def jn (ls : List Li) (n : Nat) : Bool := (ls.getD n default).w && !(ls.getD n default).m
def pP (ls : List Li) (n : Nat) : VIt := ⟨n, (ls.getD n default).p, (ls.getD n default).s, (ls.getD n default).hs⟩
def lV (ls : List Li) : List VIt := ((List.range 8).filter (jn ls)).map (pP ls)
theorem a4e ls (n : Nat) : rV n (ls.getD n default) = if jn ls n then [pP ls n] else [] := rfl
theorem Fx {ls y} : y ∈ lV ls ↔ ∃ n, n < 8 ∧ jn ls n = true ∧ pP ls n = y := by
 simp only [lV, Qbd, QaD, QbE];exact ⟨fun ⟨n, ⟨a, b⟩, c⟩ => ⟨n, a, b, c⟩, fun ⟨n, a, b, c⟩ => ⟨n, ⟨a, b⟩, c⟩⟩
theorem LZ ls : (lV ls).length ≤ 8 := by
 rw [lV, Qax];exact Qba (QaM _ _) (by simp)
theorem M0 {α β : Type} {f : α → β} (c : ∀ a b, f a = f b → a = b) : ∀ {l : List α}, l.Nodup → (l.map f).Nodup
 | [], _ => QcZ
 | a :: l, h => by
  rw [Qbx] at h;rw [QaL, Qbx];refine ⟨fun d => ?_, M0 c h.2⟩;obtain ⟨b, g, e⟩ := Qbd.1 d;exact h.1 (c _ _ e ▸ g)
theorem a4f ls : ((lV ls).map (·.n)).Nodup := by
 rw [lV, List.map_map];refine M0 (fun a b e => ?_) (List.nodup_range.sublist QbA);have : ((a : Nat) : Int) = ((b : Nat) : Int) := e;omega
theorem a4g n (f : n < 8) : (List.range 8).Perm ((List.range 8).filter (· != n) ++ [n]) := by
 refine (List.perm_ext_iff_of_nodup List.nodup_range ?_).2 fun a => ?_;rw [Qbp];refine ⟨List.nodup_range.sublist QbA, by simp, fun a d b c e => ?_⟩;rw [Qbh] at c;have := (QaD.1 d).2;subst c; subst e;simp at this;simp only [QaY, QaD, QbE, Qbh, QbO, ne_eq];omega
theorem a4h ls (n : Nat) : ((lV ls).filter fun y => y.n != (n : Int)) = (((List.range 8).filter (· != n)).filter (jn ls)).map (pP ls) := by
 rw [lV, List.filter_map, List.filter_filter, List.filter_filter];congr 1;apply Qcv;intro a _;have : ((fun y : VIt => y.n != (n : Int)) ∘ pP ls) a = (a != n) := by
  show (((a : Nat) : Int) != ((n : Nat) : Int)) = (a != n);rw [Qag, QbO, QbO];omega
 rw [this, Bool.and_comm]
theorem uM {α : Type} [Inhabited α] {l : List α} {n k x} (h : k ≠ n) : (l.set n x).getD k default = l.getD k default := by
 simp only [Qas];rw [QaW (fun e => h e.symm)]
theorem wq {α : Type} [Inhabited α] {l : List α} {n x} (h : n < l.length) : (l.set n x).getD n default = x := by
 simp [List.getD, h]
theorem a4i {ls ls' n} (h : ∀ k, k ≠ n → ls'.getD k default = ls.getD k default) : (((List.range 8).filter (· != n)).filter (jn ls')).map (pP ls') = (((List.range 8).filter (· != n)).filter (jn ls)).map (pP ls) := by
 have e : ((List.range 8).filter (· != n)).filter (jn ls') = ((List.range 8).filter (· != n)).filter (jn ls) := by
  apply Qcv;intro a b;have : a ≠ n := by simpa using (QaD.1 b).2
  unfold jn; rw [h a this]
 rw [e];apply List.map_congr_left;intro a b;have : a ≠ n := by simpa using (QaD.1 (QaD.1 b).1).2
 unfold pP; congr 1 <;> rw [h a this]
theorem M1 {ls} {n : Nat} {x} (a : n < 8) (d : ls.length = 8) : (((lV ls).filter fun y => y.n != (n : Int)) ++ rV n x).Perm (lV (ls.set n x)) := by
 have e := (((a4g n a).filter (jn (ls.set n x))).map (pP (ls.set n x))).symm;rw [QbG, QaH, a4i (fun k b => uM b), ← a4h] at e;have c : (([n] : List Nat).filter (jn (ls.set n x))).map (pP (ls.set n x)) = rV n x := by
  have := a4e (ls.set n x) n;rw [wq (by omega)] at this;rw [this, List.filter_cons, List.filter_nil];split <;> rfl
 rw [c] at e;exact e
def qU (ls : List Li) (n : Nat) : Int := (ls.getD n default).s - (ls.getD n default).p * 100000000000000000000
def tp (ls : List Li) (n : Nat) : Bool := jn ls n && (List.range 8).all fun k => !jn ls k || decide (qU ls n ≤ qU ls k)
def jF (ls : List Li) : Option Nat := (List.range 8).find? (tp ls)
structure VOk (ls : List Li) (now : Int) : Prop where
  len : ls.length = 8
  nn : 0 ≤ now
  le : ∀ n, n < 8 → (ls.getD n default).s ≤ now
  ne : ∀ n m, n < 8 → m < 8 → n ≠ m → (ls.getD n default).w = true → (ls.getD m default).w = true → (ls.getD n default).s ≠ (ls.getD m default).s
theorem a4j {ls now} (h : VOk ls now) {n m} (c : n < 8) (d : m < 8) (a : jn ls n = true) (b : jn ls m = true) (e : qU ls n = qU ls m) : n = m := by
 rcases Nat.decEq n m with q | q;have f := (ls.getD n default).hs;have g := (ls.getD m default).hs;simp only [jn, Qao] at a b;have := h.ne n m c d q a.1 b.1;unfold qU at e;omega;exact q
theorem a4k {ls now} (h : VOk ls now) (b : lV ls = []) : jF ls = none := by
 unfold jF;rw [QbX];intro n c a;simp only [tp, Qao] at a;have : pP ls n ∈ lV ls := Fx.2 ⟨n, by simpa using c, a.1, rfl⟩;rw [b] at this;cases this
theorem M3 {ls now} (h : VOk ls now) {n} (b : n < 8) (c : jn ls n = true) (d : ∀ k, k < 8 → jn ls k = true → qU ls n ≤ qU ls k) : jF ls = some n := by
 have f : tp ls n = true := by
  simp only [tp, Qao, QbW];refine ⟨c, fun k g => ?_⟩
  cases q : jn ls k with
  | false => rfl
  | true => simpa using d k (by simpa using g) q
 unfold jF
 cases q : (List.range 8).find? (tp ls) with
 | none =>
  rw [QbX] at q;exact absurd f (q n (by simpa using b))
 | some m =>
  have a := List.find?_some q;have e : m < 8 := by simpa using Qcq q
  simp only [tp, Qao, QbW] at a;have i : qU ls m ≤ qU ls n := by
   have := a.2 n (by simpa using b);simpa [c] using this
  rw [a4j h b e c a.1 (Int.le_antisymm (d m e a.1) i)]
theorem yD {ls n} (h : jF ls = some n) : n < 8 ∧ jn ls n = true := by
 unfold jF at h;have a := List.find?_some h;simp only [tp, Qao] at a;exact ⟨by simpa using Qcq h, a.1⟩
def mr (ls : List Li) (now : Int) (n : Nat) : List Li := if h : (ls.getD n default).w = false ∧ 0 ≤ now + 1 ∧ now + 1 < 10000000000000000000 then ls.set n ⟨true, (ls.getD n default).m, (ls.getD n default).p, now + 1, h.2⟩ else ls
def jZ (ls : List Li) (now : Int) (n : Nat) : Int := if (ls.getD n default).w = false then now + 1 else now
def rW (ls : List Li) (n : Nat) : List Li := ls.set n ⟨false, (ls.getD n default).m, (ls.getD n default).p, (ls.getD n default).s, (ls.getD n default).hs⟩
theorem VOk.set {ls now now' n x} (h : VOk ls now) (u : now ≤ now') (t : x.s ≤ now') (p : x.w = true → now < x.s ∨ (ls.getD n default).w = true ∧ x.s = (ls.getD n default).s) : VOk (ls.set n x) now' := by
 refine ⟨by rw [Qap, h.len], by have := h.nn; omega, fun k r => ?_, fun a b g i f d c => ?_⟩;by_cases q : k = n;subst q; rw [wq (by rw [h.len]; exact r)]; exact t;rw [uM q]; have := h.le k r; omega;by_cases l : a = n;have j : b ≠ n := fun e => f (l.trans e.symm);subst l;rw [wq (by rw [h.len]; exact g)] at d ⊢;rw [uM j] at c ⊢;rcases p d with q | ⟨m, o⟩;have := h.le b i; omega;rw [o]; exact h.ne a b g i f m c;rw [uM l] at d ⊢;by_cases j : b = n;subst j;rw [wq (by rw [h.len]; exact i)] at c ⊢;rcases p c with q | ⟨m, o⟩;have := h.le a g; omega;rw [o]; exact h.ne a b g i f d m;rw [uM j] at c ⊢;exact h.ne a b g i f d c
theorem VOk.raise {ls now n} (h : VOk ls now) : VOk (mr ls now n) (jZ ls now n) := by
 unfold mr jZ;split
 rename_i q
 rw [Qad q.1];exact h.set (by omega) (Qcb _) fun _ => .inl (by show now < now + 1; omega);split;exact ⟨h.len, by have := h.nn; omega, fun k a => by have := h.le k a; omega, h.ne⟩;exact h
theorem VOk.take {ls now n} (h : VOk ls now) (a : n < 8) : VOk (rW ls n) now := h.set (Qcb _) (h.le n a) fun e => by cases e
end
section
open Go.RowKit
def lw (b : Nat) (x : List Li × Int) : HP := chk (fun C => ∃ its : List VIt, its.Perm (lV x.1) ∧ Hp.Heap its its.length ∧ VOk x.1 x.2 ∧ C = [ej b (its, dF x.1 x.2)])
section
variable {P : Program} {W0 : World} {N : FSz} {K : Act → World → Prop} {e : b0} {A R B : List HP} {b : Nat} {ls : List Li} {now : Int} {f : FuncId} {args : List Value} {Post : Value → List HP → Prop}
theorem Fy (h : ∀ a, a.Perm (lV ls) → Hp.Heap a a.length → VOk ls now → bE P W0 f args (ej b (a, dF ls now) :: R) Post) : bE P W0 f args (lw b (ls, now) :: R) Post :=
  qf fun C c => by obtain ⟨a, d, e, g, rfl⟩ := c; exact h a d e g
theorem wt {its} [h : Tk ej b A (its, dF ls now) R] (a : its.Perm (lV ls)) (c : Hp.Heap its its.length) (d : VOk ls now) [k : Ent R B] : Ent A (lw b (ls, now) :: B) :=
  (Ent.ofPerm h.perm).trans ((Ent.cons k).trans (fH (R := B) (C := [_]) ⟨its, a, c, d, rfl⟩))
theorem a4l : Ent (pt b (ag ((dF (List.replicate 8 default) 0).set 32 eg) 177) :: R) (lw b (List.replicate 8 default, 0) :: R) := by
 have e : Ent (pt b (ag ((dF (List.replicate 8 default) 0).set 32 eg) 177) :: R) (ej b ([], dF (List.replicate 8 default) 0) :: R) :=
   (Ent.cons (eX (E := 331) (sz := 3) (A := R) (B := R))).trans (fH (R := R) (C := [_, _]) ⟨by decide, none, 0, rfl⟩)
 refine e.trans (fH (R := R) (C := [_]) ⟨[], ?_, fun c a => absurd a (QbF c), ?_, rfl⟩);exact QaN _;refine ⟨rfl, Qcb _, fun n d => ?_, fun n m d f _ h => ?_⟩;have : n = 0 ∨ n = 1 ∨ n = 2 ∨ n = 3 ∨ n = 4 ∨ n = 5 ∨ n = 6 ∨ n = 7 := by omega
 rcases this with rfl | rfl | rfl | rfl | rfl | rfl | rfl | rfl <;> decide;have : n = 0 ∨ n = 1 ∨ n = 2 ∨ n = 3 ∨ n = 4 ∨ n = 5 ∨ n = 6 ∨ n = 7 := by omega
 rcases this with rfl | rfl | rfl | rfl | rfl | rfl | rfl | rfl <;> exact absurd h (by decide)
end
theorem a4m {n} (h : gr n = true) : ∃ k : Nat, n = k ∧ k < 8 := by
 have := Qar h;exact ⟨n.toNat, by omega, by omega⟩
theorem M4 {a : List VIt} {ls} (h : a.Perm (lV ls)) : (a.map (·.n)).Nodup := (h.map (·.n)).symm.nodup (a4f ls)
theorem M5 b ls now n (x : now < 4000000000000000000) : sQ W0 42 [pV b, iQ n] (lw b (ls, now) :: R) (iQ (if gr n then 0 else 1)) (lw b (if gr n then mr ls now n.toNat else ls, if gr n then jZ ls now n.toNat else now) :: R) := by
 refine Fy fun a f l c => ?_;have y : a.length ≤ 8 := by rw [f.length_eq]; exact LZ ls
 have z := c.nn;by_cases d : gr n = true;obtain ⟨k, rfl, o⟩ := a4m d;rw [Qad d, Qad d, Qad d, Qae];by_cases h : (ls.getD k default).w = true;refine ge (a4c b a ls now c.len k o h) fun v B g => ?_;obtain ⟨rfl, rfl⟩ := g;have i : mr ls now k = ls := by rw [mr, dif_neg (by rw [h]; simp)]
 have j : jZ ls now k = now := by rw [jZ, Qaa (by rw [h]; decide)]
 rw [i, j];exact ⟨_, ⟨rfl, rfl⟩, wt f l c⟩;have e : (ls.getD k default).w = false := by simpa using h
 have q : 0 ≤ now + 1 ∧ now + 1 < 10000000000000000000 := by omega
 have r := c.raise (n := k);refine ge (a4b b a ls now c.len k o (by omega) l (M4 f) e q (by omega)) fun v B g => ?_;obtain ⟨rfl, s, rfl, t, u⟩ := g;have i : mr ls now k = ls.set k ⟨true, (ls.getD k default).m, (ls.getD k default).p, now + 1, q⟩ := by rw [mr, dif_pos ⟨e, q⟩]
 have j : jZ ls now k = now + 1 := by rw [jZ, Qad e]
 rw [i, j] at r;rw [i, j];refine ⟨_, ⟨rfl, rfl⟩, wt (t.trans ?_) u r⟩;exact ((f.filter _).append_right _).trans (M1 o c.len);rw [Qaa d, Qaa d, Qaa d];refine ge (a4d b a ls now c.len n (by simpa using d)) fun v B g => ?_;obtain ⟨rfl, rfl⟩ := g;exact ⟨_, ⟨rfl, rfl⟩, wt f l c⟩
def mt (ls : List Li) : List Li := match jF ls with | some n => rW ls n | none => ls
theorem a4n {ls now} (h : VOk ls now) : VOk (mt ls) now := by
 unfold mt
 cases q : jF ls with
 | none => exact h
 | some n => exact h.take (yD q).1
theorem a4o b ls now : sQ W0 205 [pV b] (lw b (ls, now) :: R) (.tuple #[iQ ((jF ls).getD 0), .bool (jF ls).isSome]) (lw b (mt ls, now) :: R) := by
 refine Fy fun d t D l => ?_;have P : d.length ≤ 8 := by rw [t.length_eq]; exact LZ ls
 have F := a4n l;refine am func205 ntmps205 ?_;refine dV 1 (ap OB (Fs b d ls now l.len)) ?_;refine cy rfl rfl rfl (fun g => ?_) fun g => ?_
 first | exact absurd g (by decide) | cases g
 refine aw ?_;refine ah (ap call280 (LW b d (dF ls now))) ?_;refine ai (fun G => ?_) fun G => ?_;refine az ?_;have Q : d = [] := Qbe.1 (by omega);have J : jF ls = none := a4k l (by simp_all);have v : mt ls = ls := by grind [mt]
 rw [J, v];exact ⟨_, ⟨rfl, rfl⟩, wt t D l⟩;refine aD rfl (ap GN (a34 b d (dF ls now) (by omega) (fun e => by subst e; exact G rfl) D)) ?_;rintro _ S ⟨x, i, rfl, A, H, K, u⟩;obtain rfl := A.symm;obtain ⟨n, w, L, rfl⟩ := Fx.1 ((H.trans t).mem_iff.1 (show x ∈ i ++ [x] by simp));have q : jF ls = some n := M3 l w L fun k M C => u _ (t.mem_iff.2 (Fx.2 ⟨k, M, C, rfl⟩));have v : mt ls = rW ls n := by grind [mt]
 rw [v] at F;have r : i.Perm (lV (rW ls n)) := by
  have N := (LY H (n := (n : Int)) rfl (M4 t)).trans (t.filter _);have I := M1 (x := ⟨false, (ls.getD n default).m, (ls.getD n default).p, (ls.getD n default).s, (ls.getD n default).hs⟩) w l.len;rw [show rV (n : Int) ⟨false, (ls.getD n default).m, (ls.getD n default).p, (ls.getD n default).s, (ls.getD n default).hs⟩ = [] from rfl, Qav] at I;exact N.trans I
 refine aa (sx NQ (fun _ h => by cases h) rfl) ?_;refine bj fun O => ?_;refine ar aF ?_;refine xM (b := b) (T := 177) (E := 331) (sz := 3) (f := gB) (o := 32) fun a c U => ?_;refine bq [O] 8 fun z => ?_;refine aj 0 5 z ?_;refine ax 5 z (ew w) ?_;refine aj 6 1 z ?_;refine cp 7 (dq (by grind) (Fv (j := 0) (y := ⟨false, (ls.getD n default).m, (ls.getD n default).p, (ls.getD n default).s, (ls.getD n default).hs⟩) l.len w (by decide) rfl)) fun z => ?_;refine aJ ?_;refine az ?_;rw [q, v];refine ⟨_, ⟨rfl, rfl⟩, ?_⟩;refine Ent.trans (B := ej b (i, dF (rW ls n) now) :: R) (nG rfl rfl (by rw [yC (by simp [rW, l.len])]; decide) rfl) ?_;exact wt r K F
structure TIt where
  d : Int
  s : Int
  i : Int
  hs : 0 ≤ s ∧ s < 10000000000000000000
instance : Hk TIt where
  default := ⟨0, 0, 0, by decide⟩
  ky := fun x => x.s + x.d * 100000000000000000000
@[reducible] def hJ (x : TIt) : List Value := [.int .i64 x.d, .int .i64 x.s, .int .i64 x.i]
theorem lW x : (hJ x).length = 3 := rfl
theorem a4p (a : List TIt) sp i j (b : i < a.length) (c : j < 3) : (a.flatMap hJ ++ sp)[i * 3 + j]? = (hJ (a.getD i default))[j]? := by
 simp_all [mG, lW, List.getD]
theorem uN (a : List TIt) sp i (b : i < a.length) : ((a.flatMap hJ ++ sp).drop (i * 3)).take 3 = hJ (a.getD i default) := by
 simp_all [q9, lW, List.getD]
theorem Bt (a : List TIt) sp i x (b : i < a.length) : d7 (a.flatMap hJ ++ sp) (i * 3) (hJ x) = (a.set i x).flatMap hJ ++ sp := vq lW a i x sp b
theorem Bu (a : List TIt) sp i (b : i < a.length) : i * 3 + 3 ≤ (a.flatMap hJ ++ sp).length := by
 rw [Qaf, cJ lW]; omega
theorem M6 {a : List TIt} {i} (h : i < a.length) : a ≠ [] := fun e => by rw [e] at h; simp at h
abbrev eQ : Nat → List TIt × List Value → HP := nF 183 250 3 hJ 0
abbrev kG (b : Nat) : Value := .pointer (some ⟨b, 0, none⟩)
theorem Fz b its cs : sQ W0 86 [kG b] (eQ b (its, cs) :: R) (iQ its.length) (eQ b (its, cs) :: R) := by
 refine sN fun a c d => ?_;refine am func86 ntmps86 ?_;refine aa (aE (aI (eL d))) ?_;refine ac ?_;exact ⟨_, ⟨rfl, rfl⟩, nG rfl rfl d rfl⟩
theorem M7 (x y : TIt) : sQ W0 496 [.agg #[iQ x.d, iQ x.s], .agg #[iQ y.d, iQ y.s]] R (.bool (decide (Hk.ky x < Hk.ky y))) R := by
 have a : Hk.ky x = x.s + x.d * 100000000000000000000 := rfl;have b : Hk.ky y = y.s + y.d * 100000000000000000000 := rfl;have c := x.hs;have e := y.hs;refine am func496 ntmps496 ?_;refine bz fun c => ?_;refine bz fun e => ?_;refine ai (fun f => ?_) fun f => ?_;refine ac ?_;rw [a, b];refine ⟨_, ⟨Qai Value.bool ?_, rfl⟩, IO⟩;rw [Qag, Qak, Qak];have : x.d ≠ y.d := by omega
 omega;refine ac ?_;rw [a, b];refine ⟨_, ⟨Qai Value.bool ?_, rfl⟩, IO⟩;rw [Qag, Qak, Qak];have : x.d = y.d := by omega
 omega
theorem a4q b its cs (i k : Nat) (f : i < its.length) (m : k < its.length) : sQ W0 492 [kG b, iQ i, iQ k] (eQ b (its, cs) :: R) (.bool (decide (Hp.us its i < Hp.us its k))) (eQ b (its, cs) :: R) := by
 refine qB lW (M6 f) (by decide) fun g c n e o p q => ?_;obtain ⟨x, r⟩ : ∃ x, its.getD i default = x := ⟨_, rfl⟩
 obtain ⟨y, t⟩ : ∃ y, its.getD k default = y := ⟨_, rfl⟩
 have h := Qai (fun l => l.take 2) (uN its n i f);have j := Qai (fun l => l.take 2) (uN its n k m);rw [r, Qdb] at h;rw [t, Qdb] at j;rw [show Hp.us its i = Hk.ky x by rw [Hp.us, r], show Hp.us its k = Hk.ky y by rw [Hp.us, t]];refine am func492 ntmps492 ?_;refine bq [b, g] 18 fun a => ?_;refine aj 0 3 a ?_;refine ax 3 a (aE (dm (k := 0) rfl (eL e))) ?_;refine aj 4 1 a ?_;refine ax 5 a (bJ f) ?_;refine aj 6 1 a ?_;refine aj 8 3 a ?_;refine ax 11 a (aE (dm (k := 0) rfl (eL e))) ?_;refine aj 12 1 a ?_;refine ax 13 a (bJ m) ?_;refine aj 14 1 a ?_;refine fG (is := [7, 15]) (by kernel_rfl) rfl ⟨?_, ?_, trivial⟩;refine dy (dP (df (cV (vs := [iQ x.d, iQ x.s]) h rfl))) ?_; clear a;rintro _ _ ⟨rfl, rfl⟩;refine ⟨aT, fun a => ?_⟩;refine cg 15 (dP (df (cV (vs := [iQ y.d, iQ y.s]) j rfl))) fun a => ?_;refine cg 16 (aC call496 (M7 x y)) fun a => ?_;refine aj 17 1 a ?_;refine aJ ?_;refine ac ?_;exact ⟨_, ⟨rfl, rfl⟩, kC lW rfl rfl e rfl o p q⟩;skip;refine dy (dP (df (cV (vs := [iQ y.d, iQ y.s]) j rfl))) ?_; clear a;rintro _ _ ⟨rfl, rfl⟩;refine ⟨aT, fun a => ?_⟩;refine cg 7 (dP (df (cV (vs := [iQ x.d, iQ x.s]) h rfl))) fun a => ?_;refine cg 16 (aC call496 (M7 x y)) fun a => ?_;refine aj 17 1 a ?_;refine aJ ?_;refine ac ?_;exact ⟨_, ⟨rfl, rfl⟩, kC lW rfl rfl e rfl o p q⟩
theorem a4r b its cs (i k : Nat) (e : i < its.length) (h : k < its.length) : sQ W0 495 [kG b, iQ i, iQ k] (eQ b (its, cs) :: R) (.tuple #[]) (eQ b (Hp.swapL its i k, cs) :: R) := by
 refine qB lW (M6 e) (by decide) fun g c d f m l j => ?_;refine am func495 ntmps495 ?_;refine bq [b] 28 fun a => ?_;refine aj 0 3 a ?_;refine ax 3 a (aE (dm (k := 0) rfl (eL f))) ?_;refine aj 4 4 a ?_;refine ax 8 a (aE (dm (k := 0) rfl (eL f))) ?_;refine aj 9 4 a ?_;refine ax 13 a (aE (dm (k := 0) rfl (eL f))) ?_;refine aj 14 1 a ?_;refine ax 15 a (bJ h) ?_;refine aj 17 3 a ?_;refine ax 20 a (aE (dm (k := 0) rfl (eL f))) ?_;refine aj 21 1 a ?_;refine ax 22 a (bJ e) ?_;refine fG (is := [16, 23]) (by kernel_rfl) rfl ⟨?_, ?_, trivial⟩;refine dy (dP (df (cV (uN its d k h) rfl))) ?_; clear a;rintro _ _ ⟨rfl, rfl⟩;refine ⟨aT, fun a => ?_⟩;refine cg 23 (dP (df (cV (uN its d i e) rfl))) fun a => ?_;refine ax 24 a (bJ e) ?_;refine cp 25 (iH (Bu its d i e) (Bt its d i (its.getD k default) e)) fun a => ?_;refine ax 26 a (bJ h) ?_;refine cp 27 (iH (Bu (its.set i (its.getD k default)) d k (by grind)) (Bt (its.set i (its.getD k default)) d k (its.getD i default) (by grind))) fun a => ?_;refine aJ ?_;refine bX (.inr rfl) .nil ?_;exact ⟨_, ⟨rfl, rfl⟩, kC lW rfl rfl f (by simp [Hp.swapL]) (by omega) l (by rw [Qaf, cJ lW] at j ⊢; simpa [Hp.swapL] using j)⟩;skip;refine dy (dP (df (cV (uN its d i e) rfl))) ?_; clear a;rintro _ _ ⟨rfl, rfl⟩;refine ⟨aT, fun a => ?_⟩;refine cg 16 (dP (df (cV (uN its d k h) rfl))) fun a => ?_;refine ax 24 a (bJ e) ?_;refine cp 25 (iH (Bu its d i e) (Bt its d i (its.getD k default) e)) fun a => ?_;refine ax 26 a (bJ h) ?_;refine cp 27 (iH (Bu (its.set i (its.getD k default)) d k (by grind)) (Bt (its.set i (its.getD k default)) d k (its.getD i default) (by grind))) fun a => ?_;refine aJ ?_;refine bX (.inr rfl) .nil ?_;exact ⟨_, ⟨rfl, rfl⟩, kC lW rfl rfl f (by simp [Hp.swapL]) (by omega) l (by rw [Qaf, cJ lW] at j ⊢; simpa [Hp.swapL] using j)⟩
theorem a4s b its x cs : sQ W0 493 [kG b] (eQ b (its ++ [x], cs) :: R) (.iface 250 (.agg (hJ x).toArray)) (eQ b (its, cs) :: R) := by
 refine qB lW (by simp) (by decide) fun g c d a i e j => ?_;have k : (its ++ [x]).length = its.length + 1 := by simp
 rw [k] at i ⊢;have l : (its ++ [x]).getD its.length default = x := by grind
 have f := uN (its ++ [x]) d its.length (by omega);rw [l] at f;have h : (its ++ [x]).flatMap hJ ++ d = its.flatMap hJ ++ (hJ x ++ d) := by simp
 refine am func493 ntmps493 ?_;refine aa (aE (aI (eL a))) ?_;refine aa (lg rfl rfl (by rw [co (by simp only [maxLen] at e; omega)]; omega : IntKind.wrap .i64 (((its.length + 1 : Nat) : Int) - 1) = ((its.length : Nat) : Int))) ?_;refine aa (aE (aI (eL a))) ?_;refine aa (bJ (by omega)) ?_;refine aa (df (cV f rfl)) ?_;refine bj fun m => ?_;refine ar aF ?_;refine aa (aE (aI (eL a))) ?_;refine aa (oL wH C9 rfl rfl rfl (by omega)) ?_;refine ar (dq (by rw [Qap]; exact a) set_set) ?_;refine ac ?_;rw [h];exact ⟨_, ⟨rfl, rfl⟩, kC (sp := hJ x ++ d) lW rfl rfl a rfl (by omega) e (by rw [← h]; exact j)⟩
theorem a4t b its x cs (k : its.length < 1000) : sQ W0 494 [kG b, .iface 250 (.agg (hJ x).toArray)] (eQ b (its, cs) :: R) (.tuple #[]) (eQ b (its ++ [x], cs) :: R) := by
 refine sN fun a c e => ?_;have f : its.flatMap hJ ++ [hJ x].flatten = (its ++ [x]).flatMap hJ := by simp
 refine lL func494 ntmps494 rfl rfl ?_;refine bq [] 12 fun d => ?_;refine aj 0 4 d ?_;refine aj 5 1 d ?_;refine ax 6 d (sx Gr (fun _ h => by cases h) rfl) ?_;refine fG (is := [4, 7]) (by kernel_rfl) rfl ⟨?_, ?_, trivial⟩;refine dy (dP (aE (aI (eL e)))) ?_; clear d;rintro _ _ ⟨rfl, rfl⟩;refine ⟨aT, fun d => ?_⟩;refine kl 7 (by kernel_rfl) rfl rfl (iG wH C9 Gx rfl (fm rfl rfl i5) rfl (by decide) (by decide) (by decide)) rfl ?_; clear d;rintro _ _ ⟨g, rfl, rfl⟩;refine ⟨aT, fun d => ?_⟩;refine cj 8 (et (sz := 3) (by_ := 24) (info := Tryz.t250) wH (by kernel_rfl) rfl rfl rfl rfl (by decide) rfl rfl ee rfl rfl (by simp only [maxLen]; omega) (by omega)) ?_; clear d;rintro _ _ ⟨i, j, rfl, rfl⟩;refine ⟨aT, fun d => ?_⟩;refine aj 9 2 d ?_;refine cp 11 (dq (by grind) set_set) fun d => ?_;refine i6 ?_;refine bX (.inr rfl) .nil ?_;exact ⟨_, ⟨rfl, rfl⟩, nG (its := its ++ [x]) f rfl e (by simp)⟩;skip;refine nT rfl rfl (iG wH C9 Gx rfl (fm rfl rfl i5) rfl (by decide) (by decide) (by decide)) rfl ?_; clear d;rintro _ _ ⟨g, rfl, rfl⟩;refine ⟨aT, fun d => ?_⟩;refine cg 4 (dP (aE (aI (eL e)))) fun d => ?_;refine cj 8 (et (sz := 3) (by_ := 24) (info := Tryz.t250) wH (by kernel_rfl) rfl rfl rfl rfl (by decide) rfl rfl ee rfl rfl (by simp only [maxLen]; omega) (by omega)) ?_; clear d;rintro _ _ ⟨i, j, rfl, rfl⟩;refine ⟨aT, fun d => ?_⟩;refine aj 9 2 d ?_;refine cp 11 (dq (by grind) set_set) fun d => ?_;refine aJ ?_;refine bX (.inr rfl) .nil ?_;exact ⟨_, ⟨rfl, rfl⟩, nG (its := its ++ [x]) f rfl e (by simp)⟩
section
variable (w : World) (a : Addr)
theorem a4u : (method (Tryz.prog.types.size + Made.depth) 246 (.pointer (some a)) "Len").run Tryz.prog w = .ok (86, .pointer (some a)) w := by kernel_rfl
theorem a4v : (method (Tryz.prog.types.size + Made.depth) 246 (.pointer (some a)) "Less").run Tryz.prog w = .ok (492, .pointer (some a)) w := by kernel_rfl
theorem a4w : (method (Tryz.prog.types.size + Made.depth) 246 (.pointer (some a)) "Swap").run Tryz.prog w = .ok (495, .pointer (some a)) w := by kernel_rfl
theorem a4x : (method (Tryz.prog.types.size + Made.depth) 246 (.pointer (some a)) "Push").run Tryz.prog w = .ok (494, .pointer (some a)) w := by kernel_rfl
theorem a4y : (method (Tryz.prog.types.size + Made.depth) 246 (.pointer (some a)) "Pop").run Tryz.prog w = .ok (493, .pointer (some a)) w := by kernel_rfl
end
def M8 (W0 : World) (b : Nat) (cs : List Value) : HpO W0 TIt where
  T := 246
  p := kG b
  el := fun x => .iface 250 (.agg (hJ x).toArray)
  H := fun l => eQ b (l, cs)
  fL := 86
  fE := 492
  fS := 495
  fU := 494
  fO := 493
  mL := fun u => a4u u _
  mE := fun u => a4v u _
  mS := fun u => a4w u _
  mU := fun u => a4x u _
  mO := fun u => a4y u _
  cL := OE
  cE := call492
  cS := call495
  cU := call494
  cO := call493
  sL := fun R l => Fz b l cs
  sE := fun R l i j hi hj => a4q b l cs i j hi hj
  sS := fun R l i j hi hj => a4r b l cs i j hi hj
  sU := fun R l x hl => a4t b l x cs hl
  sO := fun R l x => a4s b l x cs
theorem a4z b its x cs (c : its.length < 900) (d : Hp.Heap its its.length) : sP W0 138 [.iface 246 (kG b), .iface 250 (.agg (hJ x).toArray)] (eQ b (its, cs) :: R) (fun v B => v = .tuple #[] ∧ ∃ a, B = eQ b (a, cs) :: R ∧ a.Perm (its ++ [x]) ∧ Hp.Heap a a.length) :=
  Hp.heapPush_spec (M8 W0 b cs) R its x c d
theorem a4A b its cs (c : its.length < 900) (d : its ≠ []) (e : Hp.Heap its its.length) : sP W0 192 [.iface 246 (kG b)] (eQ b (its, cs) :: R) (fun v B => ∃ x a, v = .iface 250 (.agg (hJ x).toArray) ∧ B = eQ b (a, cs) :: R ∧ (a ++ [x]).Perm its ∧ Hp.Heap a a.length ∧ ∀ y ∈ its, Hk.ky x ≤ Hk.ky y) :=
  Hp.heapPop_spec (M8 W0 b cs) R its c d e
def eM (us : List Bool) (now : Int) : List Value := .slice none 0 0 :: (us.map Value.bool ++ [.int .i64 now, .bool true])
theorem yE {us now} (h : us.length = 4) : (eM us now).length = 7 := by
 simp [eM, h]
theorem a4B {us now} (h : us.length = 4) : (eM us now)[6]? = some (.bool true) := by
 obtain ⟨a, b, c, d, rfl⟩ : ∃ a b c d, us = [a, b, c, d] := by
  match us, h with
  | [a, b, c, d], _ => exact ⟨a, b, c, d, rfl⟩
 rfl
theorem M9 {us now} (h : us.length = 4) : (eM us now)[5]? = some (iQ now) := by
 obtain ⟨a, b, c, d, rfl⟩ : ∃ a b c d, us = [a, b, c, d] := by
  match us, h with
  | [a, b, c, d], _ => exact ⟨a, b, c, d, rfl⟩
 rfl
theorem a4C {us now} (h : us.length = 4) j v (e : (us.map Value.bool)[j]? = some v) : (eM us now)[1 + j]? = some v := by
 obtain ⟨a, b, c, d, rfl⟩ : ∃ a b c d, us = [a, b, c, d] := by
  match us, h with
  | [a, b, c, d], _ => exact ⟨a, b, c, d, rfl⟩
 match j, e with
 | 0, e => exact e
 | 1, e => exact e
 | 2, e => exact e
 | 3, e => exact e
 | j + 4, e => cases e
theorem a4D {us now x v} (h : us.length = 4) : ((eM us now).set 0 v).set 5 (iQ x) = (eM us x).set 0 v := by
 obtain ⟨a, b, c, d, rfl⟩ : ∃ a b c d, us = [a, b, c, d] := by
  match us, h with
  | [a, b, c, d], _ => exact ⟨a, b, c, d, rfl⟩
 rfl
theorem Ma {us now v u n} (h : us.length = 4) (e : n < 4) : ((eM us now).set 0 v).set (1 + n * 1) (.bool u) = (eM (us.set n u) now).set 0 v := by
 obtain ⟨a, b, c, d, rfl⟩ : ∃ a b c d, us = [a, b, c, d] := by
  match us, h with
  | [a, b, c, d], _ => exact ⟨a, b, c, d, rfl⟩
 match n, e with
 | 0, _ => rfl
 | 1, _ => rfl
 | 2, _ => rfl
 | 3, _ => rfl
theorem yF b its us now (h : us.length = 4) : sQ W0 85 [kG b] (eQ b (its, eM us now) :: R) (.bool false) (eQ b (its, eM us now) :: R) := by
 refine am func85 ntmps85 ?_;refine cy rfl rfl rfl (fun a => ?_) fun a => ?_;cases a;refine aw ?_;refine aa (aE (xN (b := b) (T := 183) (E := 250) (sz := 3) (f := hJ) (o := 0) (by decide) (a4B h))) ?_;exact ac ao
theorem a4E b its us now (h : us.length = 4) : sQ W0 27 [kG b] (eQ b (its, eM us now) :: R) (iQ its.length) (eQ b (its, eM us now) :: R) := by
 refine am func27 ntmps27 ?_;refine ah (ap CG (yF b its us now h)) ?_;refine ah (ap OE (Fz b its (eM us now))) ?_;exact ac ao
def kY : List Bool → Option Nat
 | [] => none
 | u :: us => if u then (kY us).map (· + 1) else some 0
theorem Mb {us k} (a : k < us.length) (b : ∀ j, j < k → us.getD j false = true) (e : us.getD k false = false) : kY us = some k := by
 induction us generalizing k with
 | nil => exact absurd a (QbF k)
 | cons u us c =>
  match k with
  | 0 => rw [kY, Qaa (by grind)]
  | k + 1 =>
   have d : u = true := b 0 (Nat.succ_pos k);rw [kY, Qad d, c (by simpa using a) (fun j f => by simpa using b (j + 1) (by omega)) (by grind)];rfl
theorem a4F {us} (a : ∀ j, j < us.length → us.getD j false = true) : kY us = none := by
 induction us with
 | nil => rfl
 | cons u us b =>
  have c : u = true := a 0 (by simp);rw [kY, Qad c, b (fun j d => by simpa using a (j + 1) (by grind))];rfl
theorem Mc {a k} (h : kY a = some k) : k < a.length := by
 induction a generalizing k with
 | nil => cases h
 | cons u a c =>
  rw [kY] at h;by_cases d : u = true;rw [Qad d] at h
  cases b : kY a with
  | none => rw [b] at h; cases h
  | some q => rw [b] at h; have := c b; cases h; simpa using this
  grind
theorem Md b its us now (h : us.length = 4) : sQ W0 137 [kG b] (eQ b (its, eM us now) :: R) (.tuple #[iQ ((kY us).getD 0), .bool (kY us).isSome]) (eQ b (its, eM us now) :: R) := by
 obtain ⟨g, i, l, m, rfl⟩ : ∃ a b c d, us = [a, b, c, d] := by
  match us, h with
  | [a, b, c, d], _ => exact ⟨a, b, c, d, rfl⟩
 refine am func137 ntmps137 ?_;refine aa (df (Fq (T := 183) (E := 250) (sz := 3) (f := hJ) (o := 0) (vs := [.bool g, .bool i, .bool l, .bool m]) fun j v r => ⟨by omega, a4C h j v r⟩)) ?_;refine d4 (fun k : Nat => k ≤ 4 ∧ ∀ j, j < k → [g, i, l, m].getD j false = true) (fun k => [(0, kG b), (9, .agg ([g, i, l, m].map Value.bool).toArray), (10, iQ k)]) (fun _ => eQ b (its, eM [g, i, l, m] now) :: R) (fun k => 4 - k) 0 ?_ ?_;grind;intro k ⟨x, q⟩;refine aw ?_;refine ai (fun s => ?_) fun s => ?_;have n : k < 4 := by omega
 obtain ⟨u, y⟩ : ∃ u, [g, i, l, m].getD k false = u := ⟨_, rfl⟩
 have p : ([g, i, l, m].map Value.bool)[k]? = some (.bool u) := by
  grind
 refine aa (IN NK iT nk rfl rfl rfl n p) ?_;refine ai (fun t => ?_) fun t => ?_;refine az ?_;have e := Mb (us := [g, i, l, m]) (k := k) (by omega) q (by grind);refine aG ?_;rw [e]; rfl;refine aa bY ?_;refine bR (k + 1) ?_;grind;refine az ?_;have e := a4F (us := [g, i, l, m]) fun j w => q j (by omega);refine aG ?_;rw [e]; rfl
theorem a4G b its us now (h : us.length = 4) d (c : d < 0) : sQ W0 59 [kG b, iQ d] (eQ b (its, eM us now) :: R) (.tuple #[iQ 0, iQ 1]) (eQ b (its, eM us now) :: R) := by
 refine am OF ntmps59 ?_;refine ah (ap CG (yF b its us now h)) ?_;refine aA rfl (fun a => ?_) fun a => ?_;refine au 9 ?_;exact az ao;omega
theorem a4H b its us now (h : us.length = 4) d (f : 0 ≤ d) (c : kY us = none) : sQ W0 59 [kG b, iQ d] (eQ b (its, eM us now) :: R) (.tuple #[iQ 0, iQ 2]) (eQ b (its, eM us now) :: R) := by
 refine am OF ntmps59 ?_;refine ah (ap CG (yF b its us now h)) ?_;refine aA rfl (fun e => ?_) fun e => ?_;omega;refine aw ?_;refine jO (ap call137 (Md b its us now h)) ?_;rw [c];refine aw ?_;refine ai (fun a => ?_) fun a => ?_;exact az ao;exact absurd (by decide) a
theorem a4I b its us now (h : us.length = 4) d (x : 0 ≤ d) k (r : kY us = some k) (y : its.length < 800) (t : Hp.Heap its its.length) hb (u : 0 ≤ now ∧ now < 4611686018427387904) : sP W0 59 [kG b, iQ d] (eQ b (its, eM us now) :: R) (fun v B => v = .tuple #[iQ k, iQ 0] ∧ ∃ e, B = eQ b (e, eM (us.set k true) (now + 1)) :: R ∧ e.Perm (its ++ [⟨d, now + 1, k, hb⟩]) ∧ Hp.Heap e e.length) := by
 have j : k < 4 := by rw [← h]; exact Mc r
 refine am OF ntmps59 ?_;refine ah (ap CG (yF b its us now h)) ?_;refine aA rfl (fun w => ?_) fun w => ?_;omega;refine aw ?_;refine jO (ap call137 (Md b its us now h)) ?_;rw [r, Option.getD_some, Option.isSome_some];refine au 14 ?_;refine aA rfl (fun s => ?_) fun s => ?_;exact absurd s (by decide);refine au 3 ?_;refine xM (b := b) (T := 183) (E := 250) (sz := 3) (f := hJ) (o := 0) fun a c z => ?_;refine aX (ae rfl (aM rfl) (ae rfl (kI rfl) ?_));refine ae rfl (d5 rfl a8g rfl aR rfl (by first | exact Qac _ | rfl)) ?_;refine ae rfl (cu di rfl (aI (by rw [QaW (by decide)]; exact M9 h))) ?_;refine aa bY ?_;refine ar (dq (by grind [Qap, yE]) (a4D h)) ?_;refine aa (ew j) ?_;refine ar (dq (by grind [yE]) (Ma h j)) ?_;refine eD (B := eQ b (its, eM (us.set k true) (now + 1)) :: R) (nG rfl rfl (by grind [yE]) rfl) ?_;have g : ∀ l : List TIt, bC (aQ W0 (eQ b (l, eM (us.set k true) (now + 1)) :: R)) b 5 [iQ (now + 1)] := fun l => Eb (its := l) (T := 183) (E := 250) (sz := 3) (f := hJ) (o := 0) (by decide) (M9 (by simp [h]));refine fj [(b, 5, [iQ (now + 1)])] 14 mixed rfl (bU (g _) bH) (fun i => ?_);refine aj 0 8 i ?_;refine ax 8 i (aE (jt (k := 0) rfl)) ?_;refine aj 9 2 i ?_;refine ax 11 i (fR Gr Gx (aP Ny (aP aR fQ)) (kh rfl Ny rfl rfl (Qab rfl) SetRL.eq (cA rfl aR rfl rfl (Qab rfl) SetL.eq fP))) ?_;refine aj 12 1 i ?_;refine cj 13 (ap GL (a4z b its ⟨d, now + 1, k, hb⟩ (eM (us.set k true) (now + 1)) (by omega) t)) ?_; clear i;rintro _ A ⟨rfl, m, n, p, q⟩;obtain rfl := n.symm;refine ⟨(bU (g _) bH), fun i => ?_⟩;refine aJ ?_;refine az ?_;exact ⟨_, ⟨rfl, m, rfl, p, q⟩, IO⟩
theorem a4J {W0 N K e R A T E sz o b α f} {d : List α} {cs} [u : Tk (nF T E sz f o) b A (d, cs) R] (l : ∀ x, (f x).length = sz) (m : d ≠ []) (v : 0 < sz)
    (h : ∀ g c i, o < cs.length → d.length ≤ c → c ≤ maxLen → (d.flatMap f ++ i).length = c * sz → av W0 N K e (pt b (ag (cs.set o (.slice (some ⟨g, 0, none⟩) d.length c)) T) :: pt g (ag (d.flatMap f ++ i) E) :: R)) : av W0 N K e A :=
  xM (b := b) (T := T) (E := E) (sz := sz) (f := f) (o := o) fun a c p => fT (r := osl E sz) (b := .slice a d.length c) (km (fun _ j => by
      have := cJ l d;rw [j] at this;have k : d.length = 0 := by
        grind
      exact absurd (Qbe.1 k) m) fun g n q i s j k w t => by
    cases s
    exact pX (List.Perm.swap _ _ _) (h g c i p j k t))
structure TOk (us : List Bool) (now : Int) (ti : List TIt) : Prop where
  len : us.length = 4
  nn : (ti.length : Int) ≤ now
  id : ∀ x ∈ ti, 0 ≤ x.i ∧ x.i < 4
structure Tm where
  us : List Bool
  now : Int
  ti : List TIt
def lx (b : Nat) (x : Tm) : HP := chk (fun C => ∃ its : List TIt, its.Perm x.ti ∧ Hp.Heap its its.length ∧ TOk x.us x.now x.ti ∧ C = [eQ b (its, eM x.us x.now)])
section
variable {P : Program} {W0 : World} {N : FSz} {K : Act → World → Prop} {e : b0} {A R B : List HP} {b : Nat} {x : Tm} {f : FuncId} {args : List Value} {Post : Value → List HP → Prop}
theorem FA (h : ∀ a, a.Perm x.ti → Hp.Heap a a.length → TOk x.us x.now x.ti → bE P W0 f args (eQ b (a, eM x.us x.now) :: R) Post) : bE P W0 f args (lx b x :: R) Post :=
  qf fun C c => by obtain ⟨a, d, e, g, rfl⟩ := c; exact h a d e g
theorem wu {its ti us now} [h : Tk eQ b A (its, eM us now) R] (a : its.Perm ti) (c : Hp.Heap its its.length) (d : TOk us now ti) [k : Ent R B] : Ent A (lx b ⟨us, now, ti⟩ :: B) :=
  (Ent.ofPerm h.perm).trans ((Ent.cons k).trans (fH (R := B) (C := [_]) ⟨its, a, c, d, rfl⟩))
theorem a4K : Ent (pt b (ag ((eM [false, false, false, false] 0).set 0 eg) 183) :: R) (lx b ⟨[false, false, false, false], 0, []⟩ :: R) := by
 have e : Ent (pt b (ag ((eM [false, false, false, false] 0).set 0 eg) 183) :: R) (eQ b ([], eM [false, false, false, false] 0) :: R) :=
   (Ent.cons (eX (E := 250) (sz := 3) (A := R) (B := R))).trans (fH (R := R) (C := [_, _]) ⟨by decide, none, 0, rfl⟩)
 exact e.trans (fH (R := R) (C := [_]) ⟨[], QaN _, fun c a => absurd a (QbF c), ⟨rfl, Qcb _, fun x d => by cases d⟩, rfl⟩)
end
def yG (x : Tm) (d : Int) : Int := if d < 0 then 1 else if kY x.us = none then 2 else 0
def yH (x : Tm) (d : Int) : Nat := if d < 0 then 0 else (kY x.us).getD 0
def tq (x : Tm) (d : Int) : Tm :=
  if h : 0 ≤ d ∧ 0 ≤ x.now + 1 ∧ x.now + 1 < 10000000000000000000 then (match kY x.us with | some k => ⟨x.us.set k true, x.now + 1, x.ti ++ [⟨d, x.now + 1, k, h.2⟩]⟩ | none => x) else x
theorem a4L b x d (o : x.now < 700) : sQ W0 59 [kG b, iQ d] (lx b x :: R) (.tuple #[iQ (yH x d), iQ (yG x d)]) (lx b (tq x d) :: R) := by
 obtain ⟨i, a, w⟩ := x;refine FA fun e f j c => ?_;dsimp only at f j c o ⊢;have p : 0 ≤ a := by have := c.nn; omega
 have z := f.length_eq;by_cases g : d < 0;rw [yG, yH, tq, Qad g, Qad g, dif_neg (by omega)];refine ge (a4G b e i a c.len d g) fun v B h => ?_;obtain ⟨rfl, rfl⟩ := h;exact ⟨_, ⟨rfl, rfl⟩, wu f j c⟩;have m : 0 ≤ d ∧ 0 ≤ a + 1 ∧ a + 1 < 10000000000000000000 := by omega
 rw [yG, yH, tq, Qaa g, Qaa g, dif_pos m];dsimp only
 cases l : kY i with
 | none =>
  refine ge (a4H b e i a c.len d (by omega) l) fun v B h => ?_;obtain ⟨rfl, rfl⟩ := h;exact ⟨_, ⟨rfl, rfl⟩, wu f j c⟩
 | some k =>
  have r : k < 4 := by rw [← c.len]; exact Mc l
  have := c.nn;refine ge (a4I b e i a c.len d (by omega) k l (by omega) j m.2 (by omega)) fun v B h => ?_;obtain ⟨rfl, n, rfl, s, t⟩ := h;refine ⟨_, ⟨rfl, rfl⟩, wu (s.trans (f.append_right _)) t ⟨by rw [Qap]; exact c.len, ?_, fun y u => ?_⟩⟩;grind;rcases QaY.1 u with q | q;exact c.id y q;grind
def ja (us : List Bool) (F : List TIt) : List Bool := us.mapIdx fun j u => u && !(F.any fun x => x.i == (j : Int))
theorem tt us F : (ja us F).length = us.length := by simp [ja]
theorem a4M us : ja us [] = us := by
 apply QaP (by simp [ja]);intro i a b;simp [ja]
theorem FB us F (i : Nat) h : (ja us F)[i]'(by rw [tt]; exact h) = (us[i] && !(F.any fun x => x.i == i)) := by simp [ja]
theorem a4N {us F x} {k : Nat} (c : x.i = (k : Int)) : (ja us F).set k false = ja us (F ++ [x]) := by
 apply QaP (by simp [ja]);intro i d e;have a : i < us.length := by grind [tt]
 have b : ((F ++ [x]).any fun y => y.i == (i : Int)) = ((F.any fun y => y.i == (i : Int)) || decide (k = i)) := by
  grind
 rw [List.getElem_set, FB us (F ++ [x]) i a, FB us F i a, b];by_cases q : k = i;grind;grind
theorem Me {us F F'} (h : F.Perm F') : ja us F = ja us F' := by
 grind [ja]
def kZ (now : Int) (x : TIt) : Bool := decide (x.d ≤ now)
def tu (x : Tm) (now : Int) : Tm := ⟨ja x.us (x.ti.filter (kZ now)), x.now, x.ti.filter fun y => !kZ now y⟩
def nf (x : Tm) (now : Int) : Nat := (x.ti.filter (kZ now)).length
theorem Mf {c F e : List TIt} {now} (f : (c ++ F).Perm e) (g : ∀ y ∈ F, kZ now y = true) (h : ∀ y ∈ c, kZ now y = false) : F.Perm (e.filter (kZ now)) ∧ c.Perm (e.filter fun y => !kZ now y) := by
 have a := f.filter (kZ now);have b := f.filter (fun y => !kZ now y);rw [QbG, QcJ.2 (fun y d => by rw [h y d]; decide), QaT.2 g, Qaw] at a;rw [QbG, QaT.2 (fun y d => by rw [h y d]; rfl), QcJ.2 (fun y d => by rw [g y d]; decide), Qav] at b;exact ⟨a, b⟩
theorem Mg {x y : TIt} (h : Hk.ky x ≤ Hk.ky y) : x.d ≤ y.d := by
 have a : Hk.ky x = x.s + x.d * 100000000000000000000 := rfl;have b : Hk.ky y = y.s + y.d * 100000000000000000000 := rfl;have c := x.hs;have e := y.hs;omega
structure Fr29 where
  its : List TIt
  F : List TIt
  a : Option Addr
  c : Nat
theorem a4O b x now (hb : x.now < 700) : sP W0 203 [kG b, iQ now] (lx b x :: R) (fun v B => ∃ a c, v = .slice a (nf x now) c ∧ B = lx b (tu x now) :: R) := by
 obtain ⟨r, s, w⟩ := x;refine FA fun A h1 h2 d => ?_;dsimp only at h1 h2 d hb ⊢;have x0 : w.length < 800 := by have := d.nn; omega
 refine am func203 ntmps203 ?_;refine ah (ap CG (yF b A r s d.len)) ?_;refine fM (fun X : Fr29 => (X.its ++ X.F).Perm w ∧ Hp.Heap X.its X.its.length ∧ ∀ y ∈ X.F, kZ now y = true) (fun X => [(0, kG b), (1, iQ now), (5, .slice X.a X.F.length X.c)]) (fun X => eQ b (X.its, eM (ja r X.F) s) :: osl 3 1 (.slice X.a X.F.length X.c) (X.F.map fun y => Value.int .i64 y.i) :: R) (fun X => X.its.length) ⟨A, [], none, 0⟩ ?_ ?_ ?_ ?_;grind
 · repeat (first | exact bK | refine bc rfl ?_)
 grind [a4M, Ent.cons, eX];intro ⟨l, F, a, c⟩ ⟨u, C, M⟩;dsimp only at u C M ⊢;have N : (ja r F).length = 4 := by rw [tt]; exact d.len
 have O := u.length_eq;rw [Qaf] at O;refine aw ?_;refine ah (ap OE (Fz b l (eM (ja r F) s))) ?_;refine bO (fun m => ?_) fun m => ?_;have n : l ≠ [] := fun e => by rw [e] at m; exact absurd m (by decide)
 have p : 0 < l.length := Qcz.2 n;have D := a4p l;refine a4J (b := b) (T := 183) (E := 250) (sz := 3) (f := hJ) (o := 0) lW n (by decide) fun g cc sp P k1 k2 k3 => ?_;refine aw ?_;refine aa (aE (aI (eL P))) ?_;refine aa (jM wH C9 rfl rfl (i := 0) rfl p (by first | exact Qac _ | rfl)) ?_;refine aa (aE (aI (D sp 0 0 p (by decide)))) ?_;refine ai (fun Q => ?_) fun Q => ?_;refine eD (B := eQ b (l, eM (ja r F) s) :: osl 3 1 (.slice a F.length c) (F.map fun y => Value.int .i64 y.i) :: R) (kC lW rfl rfl P rfl k1 k2 k3) ?_;refine aw ?_;refine aD rfl (ap GN (a4A b l (eM (ja r F) s) (by omega) n C)) ?_;rintro _ B_ ⟨y, G, rfl, S, t, U, H⟩;obtain rfl := S.symm;have V : y ∈ l := t.mem_iff.1 (by simp);have W : y ∈ w := u.mem_iff.1 (List.mem_append_left _ V);have x2 := d.id y W;obtain ⟨k, hk⟩ : ∃ k : Nat, y.i = (k : Int) := ⟨y.i.toNat, by omega⟩
 have I : k < 4 := by omega
 have x1 : kZ now y = true := by
  have := H (l.getD 0 default) (by
    rw [Qas, QaV p]
    exact QaG p)
  exact Qah (Int.le_trans (Mg this) Q)
 refine aa (sx Gr (fun _ h => by cases h) rfl) ?_;refine bj fun b6 => ?_;refine ar aF ?_;refine xM (b := b) (T := 183) (E := 250) (sz := 3) (f := hJ) (o := 0) fun a2 c2 x3 => ?_;refine bq [b6] 7 fun Y => ?_;refine aj 0 5 Y ?_;refine ax 5 Y (eW NK iT rfl rfl hk I (by first | exact Qac _ | rfl)) ?_;refine cp 6 (dq (by grind [Qap, yE]) ((Ma N I).trans (by rw [a4N hk]))) fun Y => ?_;refine aJ ?_;refine eD (B := eQ b (G, eM (ja r (F ++ [y])) s) :: pt b6 (ag (hJ y) 250) :: osl 3 1 (.slice a F.length c) (F.map fun y => Value.int .i64 y.i) :: R) (nG rfl rfl (by grind [yE, tt]) rfl) ?_;refine aw ?_;refine dt (js ek aR m4 rfl rfl rfl rfl rfl (by decide) (by decide)) fun b2 => ?_;refine aD rfl (et (sz := 1) (by_ := 8) (info := Tryz.t3) ek (by kernel_rfl) rfl rfl rfl rfl (by decide) rfl rfl ee rfl rfl (by simp only [maxLen]; omega) (by omega)) ?_;rintro _ _ ⟨a3, c3, rfl, rfl⟩;refine aw ?_;refine wS ⟨G, F ++ [y], a3, c3⟩ ?_ ?_ ?_ ?_;refine ⟨?_, U, fun z L => ?_⟩;refine List.Perm.trans ?_ u;show (G ++ (F ++ [y])).Perm (l ++ F);refine List.Perm.trans ?_ (t.append_right F);rw [QaJ];exact QaX.append_left G;grind;show G.length < l.length;have := t.length_eq;rw [Qaf] at this;simp only [QaK, Qbr] at this;omega
 · dsimp only
   rw [show (F ++ [y]).length = F.length + 1 by simp]
   repeat (first | exact bK | refine bc rfl ?_)
 dsimp only;rw [show (F ++ [y]).length = F.length + 1 by simp, QaH, QaL, Qch];exact IO;refine ac ?_
 obtain ⟨J, K⟩ := Mf (now := now) u M (fun y Z => by
  refine Qal fun q => Q ?_;obtain ⟨j, hj, rfl⟩ := Qbc.1 Z;have := Hp.heap_min C j hj;rw [Hp.us, Hp.us_eq hj] at this
  exact Int.le_trans (Mg this) q)
 refine ⟨_, ⟨a, c, ?_, rfl⟩, ?_⟩;show Value.slice a _ c = Value.slice a (w.filter (kZ now)).length c;rw [J.length_eq];rw [tu, ← Me J];refine Ent.trans (B := eQ b (l, eM (ja r F) s) :: R) (kC lW rfl rfl P rfl k1 k2 k3) ?_;exact wu K C ⟨by rw [tt]; exact d.len, by have := d.nn; have := K.length_eq; dsimp only; omega, fun z L => d.id z (QaD.1 L).1⟩;refine ac ?_;have n : l = [] := Qbe.1 (by omega);subst n;obtain ⟨J, K⟩ := Mf u M (fun y Z => by cases Z);refine ⟨_, ⟨a, c, ?_, rfl⟩, ?_⟩;show Value.slice a _ c = Value.slice a (w.filter (kZ now)).length c;rw [J.length_eq];rw [tu, ← Me J];exact wu K C ⟨by rw [tt]; exact d.len, by have := d.nn; have := K.length_eq; dsimp only; omega, fun z L => d.id z (QaD.1 L).1⟩
structure Gu where
  c : Cpu
  qa : QS
  qb : QS
  qc : QS
  ls : List Li
  ln : Int
  tm : Tm
  halted : Bool
  rd : List Nat
  clock : Nat
  es : List Evt
  bud : Nat
structure Gz where
  x : Bd
  q0 : Nat
  q1 : Nat
  q2 : Nat
  pv : Nat
  ps : Nat
  pm : Nat
  pb : Nat
  bx : Nat
  tr : Nat
  wv : Value
  i : Nat
  c : Cfg
@[reducible] def ly (z : Gz) (g : Gu) : List Value := [pV z.x.r, pV z.x.c, pV z.x.m, pV z.q0, pV z.q1, pV z.q2, pV z.x.v, pV z.x.t, .bool g.halted, wV (bL g.rd 0), wV (bL g.rd 1), wV (bL g.rd 2), wV (bL g.rd 3)] ++ dC z.c ++ [.int .i64 z.i, z.wv, pV z.pb, pV z.pv, pV z.bx, pV z.tr, .int .i64 g.clock]
abbrev cH (z : Gz) (g : Gu) : Obj := ag (ly z g) 149
def dR (n : Nat) : Nat := n - 1
def ov (es : List Evt) (e : Evt) : List Evt := if es.length < 4096 then es ++ [e] else es
abbrev oy (g : Gu) (k : Int) (a b p : Nat) : Gu := { g with es := ov g.es ⟨k, ((dR g.clock : Nat) : Int), a, b, p, g.c.rl⟩ }
abbrev ng (g : Gu) (pc : Nat) : Gu := { g with c := ⟨g.c.rl, pc, g.c.cs⟩ }
abbrev hQ (g : Gu) : Gu := { g with halted := true }
abbrev dG (g : Gu) : Gu := { g with bud := g.bud + 3 }
abbrev uO (g : Gu) (cause tval : Nat) : Gu := { g with c := ⟨g.c.rl, d9 g.c.cs 1, me g.c.cs g.c.pc cause tval⟩ }
def fD (g : Gu) (cause tval : Nat) : Int × Gu :=
  if d9 g.c.cs 1 = 0 then (4, oy (hQ g) 6 cause tval g.c.pc) else (1, oy (uO g cause tval) 1 cause tval g.c.pc)
def qV (c : Nat) (f : Int) : Nat := u32 ((c : Int) + ((u32 (16 * ((u32 f : Nat) : Int)) : Nat) : Int))
def oz (w : Nat) (n : Int) : Nat := if n = 1 then u32 (IntKind.wrap .i32 (IntKind.wrap .i8 (w : Int))) else if n = 2 then u32 (IntKind.wrap .i32 (IntKind.wrap .i16 (w : Int))) else w
theorem a4P {w n} (h : w < 4294967296) : oz w n < 4294967296 := by
 grind [oz, dK]
abbrev pj (g : Gu) (fr : List aB) (pg : List Pl) (a : Nat) (w k : Int) : Nat := pi fr pg (ic g.c.cs) (gJ g.c.cs) (!dQ g.c.cs) a w k
abbrev pn (g : Gu) (fr : List aB) (pg : List Pl) (a : Nat) (w k : Int) : Int := lT fr pg (ic g.c.cs) (gJ g.c.cs) (!dQ g.c.cs) a w k
abbrev ww (g : Gu) (fr : List aB) (pg : List Pl) (a : Nat) (w : Int) (x : Nat) : List aB := lU fr pg (ic g.c.cs) (gJ g.c.cs) (!dQ g.c.cs) a w x
abbrev FC (g : Gu) (d v pc : Nat) : Gu := { g with c := ⟨j5 g.c.rl d v, pc, g.c.cs⟩ }
def pp (g : Gu) (fr : List aB) (pg : List Pl) (e : Eff) : Int × Gu :=
  if pn g fr pg e.addr e.width 1 ≠ 0 then fD (dG g) (qV 4 (pn g fr pg e.addr e.width 1)) e.addr
  else (0, FC (dG g) e.d (if e.signed then oz (pj g fr pg e.addr e.width 1) e.width else pj g fr pg e.addr e.width 1) e.pc)
def pq (g : Gu) (fr : List aB) (pg : List Pl) (e : Eff) : Int × Gu :=
  if pn g fr pg e.addr e.width 2 ≠ 0 then fD (dG g) (qV 5 (pn g fr pg e.addr e.width 2)) e.addr else (0, ng (dG g) e.pc)
def ip (g : Gu) (fr : List aB) (pg : List Pl) (e : Eff) : (Int × Gu) × List aB :=
  if e.k = 1 then (pp g fr pg e, fr)
  else if e.k = 2 then (pq g fr pg e, ww g fr pg e.addr e.width e.val)
  else if e.k = 3 then (fD g e.cause e.tval, fr)
  else if e.k = 6 then ((0, ng g e.pc), fr)
  else if e.k = 5 then ((4, oy (ng (hQ g) e.pc) 4 0 0 g.c.pc), fr)
  else if e.k = 4 then ((3, g), fr)
  else ((0, g), fr)
abbrev jG (g : Gu) (c : Cpu) : Gu := { g with c := c }
def jo (i : Nat) (g : Gu) (fr : List aB) (pg : List Pl) : (Int × Gu) × List aB :=
  if pn g fr pg g.c.pc 4 0 ≠ 0 then (fD (dG g) (qV 3 (pn g fr pg g.c.pc 4 0)) g.c.pc, fr)
  else if gH (fq (pj g fr pg g.c.pc 4 0)) = false then (fD (dG g) 1 (pj g fr pg g.c.pc 4 0), fr)
  else ip (jG (dG g) (jU i (dR g.clock) (fq (pj g fr pg g.c.pc 4 0)) g.c).2) fr pg (jU i (dR g.clock) (fq (pj g fr pg g.c.pc 4 0)) g.c).1
abbrev iS (g : Gu) : Gu := { g with tm := tu g.tm ((dR g.clock : Nat) : Int), ls := if nf g.tm ((dR g.clock : Nat) : Int) = 0 then g.ls else mr g.ls g.ln 7, ln := if nf g.tm ((dR g.clock : Nat) : Int) = 0 then g.ln else jZ g.ls g.ln 7 }
abbrev a4Q (g : Gu) : Gu := { g with ls := mt g.ls }
def fF (g : Gu) : Bool × Gu :=
  if o9 g.c.cs then (match jF g.ls with
    | some n => (true, oy (uO (a4Q g) (256 + n) 0) 3 (256 + n) 0 g.c.pc)
    | none => (false, g)) else (false, g)
abbrev iZ (g : Gu) : Gu := { g with clock := g.clock + 1 }
def eR (i : Nat) (g : Gu) (fr : List aB) (pg : List Pl) : (Int × Gu) × List aB :=
  if g.halted then ((5, iZ g), fr)
  else if (fF (iS (iZ g))).1 then ((2, (fF (iS (iZ g))).2), fr)
  else jo i (fF (iS (iZ g))).2 fr pg
theorem a4R b es k ck x y z rl (e : rl.length = 16) : sP W0 167 [pV b, .agg ([Value.int .i64 k, iQ ck, wV x, wV y, wV z] ++ rl.map wV).toArray] (fJ b es :: R) (fun v B => ∃ q, v = iQ q ∧ B = fJ b (ov es ⟨k, ck, x, y, z, rl⟩) :: R) := by
 by_cases d : es.length < 4096;rw [ov, Qad d];refine ge (a1e b es k ck x y z rl e d) fun v B f => ?_;obtain ⟨rfl, rfl⟩ := f;exact ⟨_, ⟨0, rfl, rfl⟩, ent_refl⟩;rw [ov, Qaa d];refine am func167 ntmps167 ?_;refine bz fun h => ?_;refine ah (ap Oh (EE b es)) ?_;refine AV (b := b) fun a c => ?_;refine aw ?_;refine aA rfl (fun g => ?_) fun g => ?_;refine au 8 ?_;refine ac ?_;exact ⟨_, ⟨2, rfl, rfl⟩, y6 rfl rfl⟩;omega
structure GOk (z : Gz) (g : Gu) (N : Nat) : Prop where
  c : CpOk g.c
  i : z.i < 4
  clk : g.clock ≤ N
  bud : g.bud ≤ 16 * N
  ln : g.ln ≤ 1000 * N
  tn : g.tm.now ≤ N
theorem GOk.k {z g N} (h : GOk z g N) (a : N ≤ 700) : g.clock < 1000000000 := by have := h.clk; omega
theorem GOk.cpu {z g g' N} (h : GOk z g N) (a : CpOk g'.c) (d : g'.clock = g.clock) (e : g'.bud ≤ g.bud + 6) (f : g'.ln = g.ln) (b : g'.tm = g.tm) : GOk z g' (N + 1) :=
  ⟨a, h.i, by have := h.clk; omega, by have := h.bud; omega, by have := h.ln; omega, by rw [b]; have := h.tn; omega⟩
abbrev gN (gb : Nat) (z : Gz) (g : Gu) (R : List HP) : List HP := pt gb (cH z g) :: pt z.x.r (dD g.c.rl g.c.pc) :: fJ z.tr g.es :: R
abbrev gT (gb : Nat) (z : Gz) (g : Gu) (R : List HP) : List HP := pt gb (cH z g) :: pt z.x.r (dD g.c.rl g.c.pc) :: pt z.x.c (dZ g.c.cs z.i) :: fJ z.tr g.es :: R
abbrev gM (gb : Nat) (z : Gz) (g : Gu) (fr : List aB) (pg : List Pl) (R : List HP) : List HP := pt gb (cH z g) :: pt z.x.r (dD g.c.rl g.c.pc) :: pt z.x.c (dZ g.c.cs z.i) :: fJ z.tr g.es :: gZ z.x.m ⟨z.pv, z.ps, z.pm, g.bud, fr, pg⟩ :: aY z.ps fr :: R
section
variable (W0 : World) (R : List HP) (gb : Nat) (z : Gz) (g : Gu) (N : Nat) (fr : List aB) (pg : List Pl)
theorem l5 : sQ W0 63 [pV gb] (pt gb (cH z g) :: R) (.bool false) (pt gb (cH z g) :: R) := by
 refine am func63 ntmps63 ?_;refine cy rfl rfl rfl (fun a => ?_) fun a => ?_;cases a;refine aw ?_;exact ac ao
theorem Bv (a : g.clock < 1000000000) : sQ W0 168 [pV gb] (pt gb (cH z g) :: R) (iQ (dR g.clock)) (pt gb (cH z g) :: R) := by
 refine am func168 ntmps168 ?_;refine aa gF ?_;refine aa (xQ rfl rfl (show _ = ((dR g.clock : Nat) : Int) by unfold dR; split <;> omega)) ?_;exact ac ao
theorem tx (e : g.clock < 1000000000) (b : g.c.rl.length = 16) k x y w : sQ W0 80 [pV gb, iQ k, wV x, wV y, wV w] (gN gb z g R) (.tuple #[]) (gN gb z (oy g k x y w) R) := by
 refine am func80 ntmps80 ?_;refine bq [gb] 18 fun a => ?_;refine aj 0 6 a ?_;refine aj 7 8 a ?_;refine cg 6 (ap H4 (Bv W0 _ gb z g e)) fun a => ?_;refine cg 15 (ap call81 (K9 z.x.r g.c.rl g.c.pc b)) fun a => ?_;refine ax 16 a (EM b rfl rfl rfl rfl rfl rfl) ?_;refine cj 17 (ap call167 (a4R z.tr g.es k ((dR g.clock : Nat) : Int) x y w g.c.rl b)) ?_; clear a;rintro _ f ⟨q, rfl, d⟩;obtain rfl := d.symm;refine ⟨aT, fun a => ?_⟩;refine aJ ?_;refine bX (.inr rfl) .nil ?_;exact ao
theorem yI (h : GOk z g N) (b : N ≤ 700) cause tval (e : cause < 4294967296) (f : tval < 4294967296) : sQ W0 209 [pV gb, wV cause, wV tval] (gT gb z g R) (iQ (fD g cause tval).1) (gT gb z (fD g cause tval).2 R) := by
 obtain ⟨i, a⟩ : ∃ t, (d9 g.c.cs 1 != 0) = t := ⟨_, rfl⟩
 have d : d9 g.c.cs 1 = 0 ↔ i = false := by grind
 rw [fD];refine am func209 ntmps209 ?_;refine ah (ap sh (qJ z.x.r g.c.rl g.c.pc h.c.r.len)) ?_;refine ah (ap call278 (Lr z.x.c h.c.cs)) ?_;rw [a];refine ai (fun j => ?_) fun j => ?_;rw [Qad (d.2 (by grind))];refine ar (iX (by exact rfl : (ly z g).set 8 (.bool true) = ly z (hQ g))) ?_;refine ah (cM v9 (tx W0 _ gb z (hQ g) (h.k b) h.c.r.len 6 cause tval g.c.pc)) ?_;exact ac ao;rw [Qaa (fun q => by have := d.1 q; simp_all)];refine ah (ap call206 (Lu z.x.c g.c.pc cause tval h.c.cs h.c.pc e f)) ?_;refine ah (ap Cz (y5 z.x.r g.c.rl g.c.pc (d9 g.c.cs 1) h.c.r.len)) ?_;refine ah (cM v9 (tx W0 _ gb z (uO g cause tval) (h.k b) h.c.r.len 1 cause tval g.c.pc)) ?_;exact ac ao
theorem Mh g a b : (fD g a b).2.bud = g.bud := by unfold fD; split <;> rfl
theorem FD {W0 R} c f : sQ W0 210 [wV c, iQ f] R (wV (qV c f)) R := by
 refine am func210 ntmps210 ?_;refine aa (bD (d8 f)) ?_;refine aa (pY rfl rfl (d8 _)) ?_;refine aa (db rfl rfl (d8 _)) ?_;exact ac ao
theorem Bw (a : g.c.rl.length = 16) pc : sQ W0 348 [pV gb, wV pc] (pt gb (cH z g) :: pt z.x.r (dD g.c.rl g.c.pc) :: R) (iQ 0) (pt gb (cH z g) :: pt z.x.r (dD g.c.rl pc) :: R) := by
 refine am func348 ntmps348 ?_;refine ah (ap Cz (y5 z.x.r g.c.rl g.c.pc pc a)) ?_;exact ac ao
theorem a4S {W0 R} w n : sQ W0 347 [wV w, iQ n] R (wV (oz w n)) R := by
 refine am func347 ntmps347 ?_;refine ai (fun a => ?_) fun a => ?_;refine aa (bD rfl) ?_;refine aa (bD rfl) ?_;refine aa (bD (d8 _)) ?_;refine ac ?_;rw [oz, Qad (by omega)];exact ao;refine ai (fun b => ?_) fun b => ?_;refine aa (bD rfl) ?_;refine aa (bD rfl) ?_;refine aa (bD (d8 _)) ?_;refine ac ?_;rw [oz, Qaa (by omega), Qad (by omega)];exact ao;refine ac ?_;rw [oz, Qaa (by omega), Qaa (by omega)];exact ao
theorem GOk.tick {z g N} (h : GOk z g N) : GOk z (dG g) (N + 1) := h.cpu h.c rfl (by grind) rfl rfl
theorem uP {fr pg on root user va w kind} (b : cB fr) : pi fr pg on root user va w kind < 4294967296 := by
 unfold pi;split;split;unfold jR;split
 rename_i c
 obtain ⟨i, d, a⟩ := qq c;rw [d, Qae];exact WT (b.get a).2;decide;decide;decide
theorem Mi {fr pg on root user va w x} (a : cB fr) : cB (lU fr pg on root user va w x) := by
 grind [lU, A8]
theorem Mj {fr pg on root user va w x} : (lU fr pg on root user va w x).length = fr.length := by
 grind [lU, xm]
theorem a4T (q : ∀ A, bC (aQ W0 A) 1 0 j9) (h : GOk z g N) (v : N ≤ 690) (B : cB fr) e (l : EfOk e) : sQ W0 291 [pV gb, .agg (cP e).toArray] (gM gb z g fr pg R) (iQ (pp g fr pg e).1) (gM gb z (pp g fr pg e).2 fr pg R) := by
 obtain ⟨F, f⟩ : ∃ F, pn g fr pg e.addr e.width 1 = F := ⟨_, rfl⟩
 obtain ⟨w, i⟩ : ∃ w, pj g fr pg e.addr e.width 1 = w := ⟨_, rfl⟩
 have C : w < 4294967296 := by grind [uP]
 have s := h.tick;have t := h.bud;rw [pp, f, i];refine lL func291 ntmps291 rfl rfl ?_;refine aO (aX ?_);refine ez (kg rfl) fun j => ?_;refine ae rfl (bA rfl) (aL (aH (aO ?_)));refine bq [gb, j] 21 fun a => ?_;refine aj 0 10 a ?_;refine aj 11 4 a ?_;refine cg 10 (ap CF (yw z.x.c h.c.cs)) fun a => ?_;refine cj 15 (cq call207 (LU W0 _ z.x.m z.pv z.ps z.pm g.bud fr pg q (by omega) (ic g.c.cs) (gJ g.c.cs) (!dQ g.c.cs) e.addr l.addr e.width 1)) ?_; clear a;rintro _ p ⟨rfl, b⟩;obtain rfl := b.symm;rw [show lT fr pg (ic g.c.cs) (gJ g.c.cs) (!dQ g.c.cs) e.addr e.width 1 = F from f, show pi fr pg (ic g.c.cs) (gJ g.c.cs) (!dQ g.c.cs) e.addr e.width 1 = w from i];refine ⟨aT, fun a => ?_⟩;refine aj 16 5 a ?_;refine i6 ?_;refine aH (aO (aO (aX (ae rfl (aM rfl) (ae rfl (nt rfl rfl) (aL (aH ?_)))))));refine aA rfl (fun n => ?_) fun n => ?_;refine aO ?_;refine bq [j] 7 fun a => ?_;refine aj 0 2 a ?_;refine aj 3 2 a ?_;refine cg 2 (aC OG (FD 4 F)) fun a => ?_;refine kl 5 (by kernel_rfl) rfl rfl (lM CH rfl (yI W0 _ gb z (dG g) (N + 1) s (by omega) (qV 4 F) e.addr (dK _) l.addr)) rfl ?_; clear a;rintro _ p ⟨rfl, b⟩;obtain rfl := b.symm;refine ⟨(bQ bH), fun a => ?_⟩;refine aj 6 1 a ?_;refine aJ ?_;refine ac ?_;rw [Qad n];unfold gM;rw [Mh];exact ao;refine au 2 ?_;refine cF (fun _ : Unit => True) (fun _ => [(0, pV gb), (3, pV j), (5, wV (if e.signed then oz w e.width else w))]) (fun _ => pt j (ag (cP e) 267) :: gM gb z (dG g) fr pg R) ?_ ?_;refine au 6 ?_;refine ai (fun o => ?_) fun o => ?_;refine ah (aC call347 (a4S w e.width)) ?_;refine dj () ?_ ?_ ?_;trivial
 · rw [Qad o]
   repeat (first | exact bK | refine bc rfl ?_)
 exact IO;refine dj () ?_ ?_ ?_;trivial
 · rw [Qaa o]
   repeat (first | exact bK | refine bc rfl ?_)
 exact IO;intro _ _;rw [Qaa n];obtain ⟨y, u⟩ : ∃ y, (if e.signed then oz w e.width else w) = y := ⟨_, rfl⟩
 rw [u];have k : gO (e.d : Int) = true := by have := l.d; simp only [gO, Qaj]; omega
 refine aw ?_;refine bq [gb, j] 9 fun a => ?_;refine aj 0 8 a ?_;refine cj 8 (ap CB (Fa z.x.r g.c.rl g.c.pc y e.d h.c.r.len)) ?_; clear a;rintro _ p ⟨rfl, b⟩;obtain rfl := b.symm;rw [Qad k, Qad k, Qae];refine ⟨aT, fun a => ?_⟩;refine aJ ?_;refine ah (cq H5 (Bw W0 _ gb z (FC (dG g) e.d y g.c.pc) (by show (j5 g.c.rl e.d y).length = 16; unfold j5; split <;> simp [h.c.r.len]) e.pc)) ?_;exact ac ao
theorem a4U (o : ∀ A, bC (aQ W0 A) 1 0 j9) (h : GOk z g N) (t : N ≤ 690) (u : cB fr) e (j : EfOk e) : sQ W0 292 [pV gb, .agg (cP e).toArray] (gM gb z g fr pg R) (iQ (pq g fr pg e).1) (gM gb z (pq g fr pg e).2 (ww g fr pg e.addr e.width e.val) pg R) := by
 obtain ⟨F, i⟩ : ∃ F, pn g fr pg e.addr e.width 2 = F := ⟨_, rfl⟩
 obtain ⟨k, b⟩ : ∃ f, ww g fr pg e.addr e.width e.val = f := ⟨_, rfl⟩
 have p := h.tick;have q := h.bud;rw [pq, i, b];refine lL func292 ntmps292 rfl rfl ?_;refine aO (aX ?_);refine ez (kg rfl) fun n => ?_;refine ae rfl (bA rfl) (aL (aH (aO (aO ?_))));refine bq [gb, n] 19 fun a => ?_;refine aj 0 10 a ?_;refine aj 11 6 a ?_;refine cg 10 (ap CF (yw z.x.c h.c.cs)) fun a => ?_;refine cj 17 (cq call349 (a3R W0 _ z.x.m z.pv z.ps z.pm g.bud fr pg o (by omega) (ic g.c.cs) (gJ g.c.cs) (!dQ g.c.cs) e.addr j.addr e.width e.val j.val)) ?_; clear a;rintro _ s ⟨rfl, d⟩;obtain rfl := d.symm;rw [show lT fr pg (ic g.c.cs) (gJ g.c.cs) (!dQ g.c.cs) e.addr e.width 2 = F from i, show lU fr pg (ic g.c.cs) (gJ g.c.cs) (!dQ g.c.cs) e.addr e.width e.val = k from b];refine ⟨aT, fun a => ?_⟩;refine aj 18 1 a ?_;refine i6 ?_;refine aH (aO (aX (ae rfl (aM rfl) (ae rfl (nt rfl rfl) (aL (aH ?_))))));refine aA rfl (fun l => ?_) fun l => ?_;refine aO ?_;refine bq [n] 7 fun a => ?_;refine aj 0 2 a ?_;refine aj 3 2 a ?_;refine cg 2 (aC OG (FD 5 F)) fun a => ?_;refine kl 5 (by kernel_rfl) rfl rfl (lM CH rfl (yI W0 _ gb z (dG g) (N + 1) p (by omega) (qV 5 F) e.addr (dK _) j.addr)) rfl ?_; clear a;rintro _ s ⟨rfl, d⟩;obtain rfl := d.symm;refine ⟨(bQ bH), fun a => ?_⟩;refine aj 6 1 a ?_;refine aJ ?_;refine ac ?_;rw [Qad l];unfold gM;rw [Mh];exact ao;refine aw ?_;refine ah (cq H5 (Bw W0 _ gb z (dG g) h.c.r.len e.pc)) ?_;refine ac ?_;rw [Qaa l];exact ao
theorem a4V (h : GOk z g N) (c : N ≤ 690) e (b : EfOk e) : sQ W0 293 [pV gb, .agg (cP e).toArray] (gM gb z g fr pg R) (.int .i64 (fD g e.cause e.tval).1) (gM gb z (fD g e.cause e.tval).2 fr pg R) := by
 have a : (fD g e.cause e.tval).2.bud = g.bud := by grind [fD]
 refine ju 2 func293 ntmps293 ?_;refine ez (kg rfl) fun d => ?_;refine au 10 ?_;refine dV 4 (lM CH rfl (yI W0 _ gb z g N h (by omega) e.cause e.tval (by have := b.cause; omega) b.tval)) ?_;refine ac ?_;unfold gM;rw [a];exact ⟨_, ⟨rfl, rfl⟩, IO⟩
theorem a4W (b : g.c.rl.length = 16) e : sQ W0 294 [pV gb, .agg (cP e).toArray] (gM gb z g fr pg R) (iQ 0) (gM gb z (ng g e.pc) fr pg R) := by
 refine am func294 ntmps294 ?_;refine bz fun d => ?_;refine aD rfl (ap call350 (a3S W0 _ z.x.m z.pv z.ps z.pm g.bud fr pg)) ?_;rintro _ f ⟨q, rfl, a⟩;obtain rfl := a.symm;refine aw ?_;refine ah (cq H5 (Bw W0 _ gb z g b e.pc)) ?_;exact ac ao
theorem a4X (b : g.clock < 1000000000) (a : g.c.rl.length = 16) e : sQ W0 295 [pV gb, .agg (cP e).toArray] (gM gb z g fr pg R) (iQ 4) (gM gb z (oy (ng (hQ g) e.pc) 4 0 0 g.c.pc) fr pg R) := by
 refine am func295 ntmps295 ?_;refine bz fun d => ?_;refine ah (ap sh (qJ z.x.r g.c.rl g.c.pc a)) ?_;refine ar (iX (by exact rfl : (ly z g).set 8 (.bool true) = ly z (hQ g))) ?_;refine ah (cq H5 (Bw W0 _ gb z (hQ g) a e.pc)) ?_;refine ah (cM v9 (tx W0 _ gb z (ng (hQ g) e.pc) b a 4 0 0 g.c.pc)) ?_;exact ac ao
def Mk (f : FuncId) (e : Eff) (o : (Int × Gu) × List aB) : Prop := (∀ args w, (callFunc f args).run Tryz.prog w = .ok (.enter f args) w) ∧ ∀ R, bE Tryz.prog W0 f ([pV gb] ++ [.agg (cP e).toArray] ++ []) (gM gb z g fr pg R) (fun v B => v = .int .i64 o.1.1 ∧ B = gM gb z o.1.2 o.2 pg R)
theorem uQ {f e o o'} (b : ∀ a w, (callFunc f a).run Tryz.prog w = .ok (.enter f a) w) (c : o = o') (h : ∀ R, bE Tryz.prog W0 f [pV gb, .agg (cP e).toArray] (gM gb z g fr pg R) (fun v B => v = iQ o'.1.1 ∧ B = gM gb z o'.1.2 o'.2 pg R)) : Mk W0 gb z g fr pg f e o := ⟨b, by rw [c]; exact h⟩
theorem a4Y e : sQ W0 296 [pV gb, .agg (cP e).toArray] R (iQ 3) R := by
 refine am func296 ntmps296 ?_;refine bz fun a => ?_;exact ac ao
theorem a4Z e : sQ W0 297 [pV gb, .agg (cP e).toArray] R (iQ 0) R := by
 refine am func297 ntmps297 ?_;refine bz fun a => ?_;exact ac ao
theorem FE (j : ∀ A, bC (aQ W0 A) 1 0 j9) (h : GOk z g N) (a : N ≤ 690) (l : cB fr) e (b : EfOk e) : sP W0 213 [pV gb, iQ e.k] R (fun v B => ∃ f, v = .func (.func f) #[pV gb] #[] ∧ B = R ∧ Mk W0 gb z g fr pg f e (ip g fr pg e)) := by
 refine am func213 ntmps213 ?_;refine ai (fun m => ?_) fun m => ?_;refine ac ?_;refine ⟨_, ⟨_, rfl, rfl, uQ W0 gb z g fr pg (o' := (pp g fr pg e, fr)) call291 ?_ fun R => a4T W0 R gb z g N fr pg j h a l e b⟩, IO⟩;rw [ip, Qad (by omega)];refine ai (fun n => ?_) fun n => ?_;refine ac ?_;refine ⟨_, ⟨_, rfl, rfl, uQ W0 gb z g fr pg (o' := (pq g fr pg e, ww g fr pg e.addr e.width e.val)) call292 ?_ fun R => a4U W0 R gb z g N fr pg j h a l e b⟩, IO⟩;rw [ip, Qaa (by omega), Qad (by omega)];refine ai (fun o => ?_) fun o => ?_;refine ac ?_;refine ⟨_, ⟨_, rfl, rfl, uQ W0 gb z g fr pg (o' := (fD g e.cause e.tval, fr)) call293 ?_ fun R => a4V W0 R gb z g N fr pg h a e b⟩, IO⟩;rw [ip, Qaa (by omega), Qaa (by omega), Qad (by omega)];refine ai (fun p => ?_) fun p => ?_;refine ac ?_;refine ⟨_, ⟨_, rfl, rfl, uQ W0 gb z g fr pg (o' := ((0, ng g e.pc), fr)) call294 ?_ fun R => a4W W0 R gb z g fr pg h.c.r.len e⟩, IO⟩;rw [ip, Qaa (by omega), Qaa (by omega), Qaa (by omega), Qad (by omega)];refine ai (fun d => ?_) fun d => ?_;refine ac ?_;refine ⟨_, ⟨_, rfl, rfl, uQ W0 gb z g fr pg (o' := ((4, oy (ng (hQ g) e.pc) 4 0 0 g.c.pc), fr)) call295 ?_ fun R => a4X W0 R gb z g fr pg (h.k (by omega)) h.c.r.len e⟩, IO⟩;rw [ip, Qaa (by omega), Qaa (by omega), Qaa (by omega), Qaa (by omega), Qad (by omega)];refine ai (fun i => ?_) fun i => ?_;refine ac ?_;refine ⟨_, ⟨_, rfl, rfl, uQ W0 gb z g fr pg (o' := ((3, g), fr)) call296 ?_ fun R => a4Y W0 _ gb e⟩, IO⟩;rw [ip, Qaa (by omega), Qaa (by omega), Qaa (by omega), Qaa (by omega), Qaa (by omega), Qad (by omega)];refine ac ?_;refine ⟨_, ⟨_, rfl, rfl, uQ W0 gb z g fr pg (o' := ((0, g), fr)) call297 ?_ fun R => a4Z W0 _ gb e⟩, IO⟩;rw [ip, Qaa (by omega), Qaa (by omega), Qaa (by omega), Qaa (by omega), Qaa (by omega), Qaa (by omega)]
theorem a40 (D : ∀ A, bC (aQ W0 A) 1 0 j9) (E : ∀ A, bC (aQ W0 A) 0 0 kX) (h : GOk z g N) (P : N ≤ 680) (G : cB fr) : sQ W0 141 [pV gb] (gM gb z g fr pg R) (iQ (jo z.i g fr pg).1.1) (gM gb z (jo z.i g fr pg).1.2 (jo z.i g fr pg).2 pg R) := by
 obtain ⟨F, v⟩ : ∃ F, pn g fr pg g.c.pc 4 0 = F := ⟨_, rfl⟩
 obtain ⟨w, y⟩ : ∃ w, pj g fr pg g.c.pc 4 0 = w := ⟨_, rfl⟩
 have I : w < 4294967296 := by grind [uP]
 have t := h.tick;have K := h.bud;obtain ⟨L, j⟩ : ∃ b, gH (fq w) = b := ⟨_, rfl⟩
 have B := DU w;obtain ⟨o, C⟩ : ∃ o, jU z.i (dR g.clock) (fq w) g.c = o := ⟨_, rfl⟩
 have n : EfOk o.1 ∧ CpOk o.2 := by rw [← C]; exact E1 h.c B.2.1 h.i
 have u : GOk z (jG (dG g) o.2) (N + 1) := ⟨n.2, t.i, t.clk, t.bud, t.ln, t.tn⟩
 have p : ∀ (a b : Nat), (fD (dG g) a b).2.bud = g.bud + 3 := fun a b => by unfold fD; split <;> rfl
 rw [jo, v, y, j, C];refine am func141 ntmps141 ?_;refine ah (ap sh (qJ z.x.r g.c.rl g.c.pc h.c.r.len)) ?_;refine bq [gb] 18 fun e => ?_;refine aj 0 10 e ?_;refine aj 11 1 e ?_;refine cg 10 (ap CF (yw z.x.c h.c.cs)) fun e => ?_;refine cj 12 (cq call207 (LU W0 _ z.x.m z.pv z.ps z.pm g.bud fr pg D (by omega) (ic g.c.cs) (gJ g.c.cs) (!dQ g.c.cs) g.c.pc h.c.pc 4 0)) ?_; clear e;rintro _ l ⟨rfl, d⟩;obtain rfl := d.symm;rw [show lT fr pg (ic g.c.cs) (gJ g.c.cs) (!dQ g.c.cs) g.c.pc 4 0 = F from v, show pi fr pg (ic g.c.cs) (gJ g.c.cs) (!dQ g.c.cs) g.c.pc 4 0 = w from y];refine ⟨aT, fun e => ?_⟩;refine aj 13 5 e ?_;refine aJ ?_;refine ai (fun H => ?_) fun H => ?_;refine aD rfl (iE OG rfl (FD 3 F)) ?_;rintro _ l ⟨rfl, d⟩;obtain rfl := d.symm;refine ae rfl (aM rfl) ?_;refine aD rfl (lM CH rfl (yI W0 _ gb z (dG g) (N + 1) t (by omega) (qV 3 F) g.c.pc (dK _) h.c.pc)) ?_;rintro _ l ⟨rfl, d⟩;obtain rfl := d.symm;refine ae rfl (bA rfl) (aL (aH (dE (iU (ac ?_)))));rw [Qad H];unfold gM;rw [p];exact ao;rw [Qaa H];refine ah (aC call211 (a3d E w I)) ?_;rw [j];refine bj fun M => ?_;refine ar aF ?_;refine aA rfl (fun O => ?_) fun O => ?_;refine aO ?_;refine aX (ae rfl (aM rfl) (ae rfl (aM rfl) ?_));refine aD rfl (lM CH rfl (yI W0 _ gb z (dG g) (N + 1) t (by omega) 1 w (by decide) I)) ?_;rintro _ l ⟨rfl, d⟩;obtain rfl := d.symm;refine ae rfl (bA rfl) (aL (aH (dE (iU (ac ?_)))));rw [Qad (by grind)];unfold gM;rw [p];exact ao;refine aw ?_;obtain rfl : L = true := by grind
 rw [Qaa (by decide)];refine bq [gb, M] 20 fun e => ?_;refine aj 0 12 e ?_;refine fG (is := [12, 17]) (by kernel_rfl) rfl ⟨?_, ?_, trivial⟩;refine dy (ap H4 (Bv W0 _ gb z g (h.k (by omega)))) ?_; clear e;rintro _ l ⟨rfl, d⟩;obtain rfl := d.symm;refine ⟨aT, fun e => ?_⟩;refine fG (is := [13, 17]) (by kernel_rfl) rfl ⟨?_, ?_, trivial⟩;refine dy (cq OH (Fl W0 _ (fq w) z.x.r z.x.c ((dR g.clock : Nat) : Int) g.c z.i E h.c j h.i (by omega))) ?_; clear e;rintro _ l ⟨rfl, d⟩;obtain rfl := d.symm;rw [Qae, C];refine ⟨aT, fun e => ?_⟩;refine aj 14 3 e ?_;refine cj 17 (dx lc) ?_; clear e;rintro _ _ ⟨J, rfl, rfl⟩;refine ⟨aT, fun e => ?_⟩;refine cp 18 aF fun e => ?_;refine aj 19 1 e ?_;refine aJ ?_;refine ai (fun q => ?_) fun q => ?_;exact absurd rfl q;refine aD rfl (aC OI (FE W0 _ gb z (jG (dG g) o.2) (N + 1) fr pg D u (by omega) G o.1 n.1)) ?_;rintro _ l ⟨f, rfl, d, s⟩;obtain rfl := d.symm;refine aw ?_;refine ah (kj xj (je (us := [pV gb]) (cs := []) rfl s.1 rfl (s.2 _))) ?_;exact ac ao;skip;refine dy (dx lc) ?_; clear e;rintro _ _ ⟨J, rfl, rfl⟩;refine ⟨aT, fun e => ?_⟩;refine cj 13 (cq OH (Fl W0 _ (fq w) z.x.r z.x.c ((dR g.clock : Nat) : Int) g.c z.i E h.c j h.i (by omega))) ?_; clear e;rintro _ l ⟨rfl, d⟩;obtain rfl := d.symm;rw [Qae, C];refine ⟨aT, fun e => ?_⟩;refine aj 14 3 e ?_;refine cp 18 aF fun e => ?_;refine aj 19 1 e ?_;refine aJ ?_;refine ai (fun q => ?_) fun q => ?_;exact absurd rfl q;refine aD rfl (aC OI (FE W0 _ gb z (jG (dG g) o.2) (N + 1) fr pg D u (by omega) G o.1 n.1)) ?_;rintro _ l ⟨f, rfl, d, s⟩;obtain rfl := d.symm;refine aw ?_;refine ah (kj xj (je (us := [pV gb]) (cs := []) rfl s.1 rfl (s.2 _))) ?_;exact ac ao;skip;refine dy (dx lc) ?_; clear e;rintro _ _ ⟨J, rfl, rfl⟩;refine ⟨aT, fun e => ?_⟩;refine cg 12 (ap H4 (Bv W0 _ gb z g (h.k (by omega)))) fun e => ?_;refine cj 13 (cq OH (Fl W0 _ (fq w) z.x.r z.x.c ((dR g.clock : Nat) : Int) g.c z.i E h.c j h.i (by omega))) ?_; clear e;rintro _ l ⟨rfl, d⟩;obtain rfl := d.symm;rw [Qae, C];refine ⟨aT, fun e => ?_⟩;refine aj 14 3 e ?_;refine cp 18 aF fun e => ?_;refine aj 19 1 e ?_;refine aJ ?_;refine ai (fun q => ?_) fun q => ?_;exact absurd rfl q;refine aD rfl (aC OI (FE W0 _ gb z (jG (dG g) o.2) (N + 1) fr pg D u (by omega) G o.1 n.1)) ?_;rintro _ l ⟨f, rfl, d, s⟩;obtain rfl := d.symm;refine aw ?_;refine ah (kj xj (je (us := [pV gb]) (cs := []) rfl s.1 rfl (s.2 _))) ?_;exact ac ao
end
abbrev gI (gb : Nat) (z : Gz) (g : Gu) (R : List HP) : List HP := pt gb (cH z g) :: pt z.x.r (dD g.c.rl g.c.pc) :: pt z.x.c (dZ g.c.cs z.i) :: fJ z.tr g.es :: lw z.x.v (g.ls, g.ln) :: lx z.x.t g.tm :: R
abbrev gS (gb : Nat) (z : Gz) (g : Gu) (fr : List aB) (pg : List Pl) (R : List HP) : List HP := pt gb (cH z g) :: pt z.x.r (dD g.c.rl g.c.pc) :: pt z.x.c (dZ g.c.cs z.i) :: fJ z.tr g.es :: lw z.x.v (g.ls, g.ln) :: lx z.x.t g.tm :: gZ z.x.m ⟨z.pv, z.ps, z.pm, g.bud, fr, pg⟩ :: aY z.ps fr :: R
theorem CpOk.enter {g} (h : CpOk g.c) {cause tval} (a : cause < 4294967296) (b : tval < 4294967296) : CpOk (uO g cause tval).c := ⟨h.r, h.cs.at_ 1, h.cs.enter h.pc a b⟩
theorem FF ls n k : jZ ls n k ≤ n + 1 := by unfold jZ; split <;> omega
theorem GOk.fired {z g N} (h : GOk z g N) : GOk z (iS g) (N + 1) := by
 refine ⟨h.c, h.i, by have := h.clk; show g.clock ≤ N + 1; omega, by have := h.bud; show g.bud ≤ _; omega, ?_, by have := h.tn; show g.tm.now ≤ _; omega⟩;have := h.ln;have := FF g.ls g.ln 7;show (if _ then g.ln else jZ g.ls g.ln 7) ≤ _;split <;> omega
theorem GOk.le {z g N M} (h : GOk z g N) (a : N ≤ M) : GOk z g M := ⟨h.c, h.i, by have := h.clk; omega, by have := h.bud; omega, by have := h.ln; omega, by have := h.tn; omega⟩
theorem GOk.int {z g N} (h : GOk z g N) : GOk z (fF g).2 (N + 1) := by
 unfold fF;split
 cases q : jF g.ls with
 | none => exact h.le (Qcx N)
 | some n =>
  have := (yD q).1;exact ⟨h.c.enter (by omega) (by decide), h.i, by have := h.clk; show g.clock ≤ _; omega, by have := h.bud; show g.bud ≤ _; omega, by have := h.ln; show g.ln ≤ _; omega, by have := h.tn; show g.tm.now ≤ _; omega⟩
 exact h.le (Qcx N)
theorem GOk.clock {z g N} (h : GOk z g N) : GOk z (iZ g) (N + 1) := ⟨h.c, h.i, by have := h.clk; show g.clock + 1 ≤ _; omega, by have := h.bud; show g.bud ≤ _; omega, by have := h.ln; show g.ln ≤ _; omega, by have := h.tn; show g.tm.now ≤ _; omega⟩
theorem yJ g a b : (fD g a b).2.ls = g.ls ∧ (fD g a b).2.ln = g.ln ∧ (fD g a b).2.tm = g.tm := by
 grind [fD]
theorem FG i g fr pg : (jo i g fr pg).1.2.ls = g.ls ∧ (jo i g fr pg).1.2.ln = g.ln ∧ (jo i g fr pg).1.2.tm = g.tm := by
 unfold jo
 split; · exact yJ _ _ _
 split; · exact yJ _ _ _
 unfold ip
 split
 grind [pp, yJ]
 split
 grind [pq, yJ]
 split; · exact yJ _ _ _
 split; · exact ⟨rfl, rfl, rfl⟩
 split; · exact ⟨rfl, rfl, rfl⟩
 split; · exact ⟨rfl, rfl, rfl⟩
 exact ⟨rfl, rfl, rfl⟩
section
variable (W0 : World) (R : List HP) (gb : Nat) (z : Gz) (g : Gu) (N : Nat) (fr : List aB) (pg : List Pl)
theorem a41 (h : GOk z g N) (W : N ≤ 690) : sQ W0 140 [pV gb] (gI gb z g R) (.bool (fF (iS g)).1) (gI gb z (fF (iS g)).2 R) := by
 have L := h.tn;have M := h.ln;obtain ⟨X, l⟩ : ∃ b, o9 g.c.cs = b := ⟨_, rfl⟩
 obtain ⟨K, y⟩ : ∃ K, nf g.tm ((dR g.clock : Nat) : Int) = K := ⟨_, rfl⟩
 obtain ⟨q, d⟩ : ∃ q, iS g = q := ⟨_, rfl⟩
 have f : q.c = g.c := by rw [← d]
 have A : ly z q = ly z g := by rw [← d]
 have m : q.es = g.es := by rw [← d]
 have o : q.clock = g.clock := by rw [← d]
 rw [d, fF, f, l];refine ju 5 func140 ntmps140 ?_;refine cF (fun _ : Unit => True) (fun _ => [(0, pV gb)]) (fun _ => pt gb (cH z q) :: pt z.x.r (dD q.c.rl q.c.pc) :: pt z.x.c (dZ q.c.cs z.i) :: fJ z.tr q.es :: lw z.x.v (q.ls, q.ln) :: lx z.x.t q.tm :: R) ?_ ?_;refine au 1 ?_;refine bq [gb] 10 fun p => ?_;refine aj 0 6 p ?_;refine cg 6 (ap H4 (Bv W0 _ gb z g (h.k (by omega)))) fun p => ?_;refine cj 7 (ap call203 (a4O z.x.t g.tm ((dR g.clock : Nat) : Int) (by omega))) ?_; clear p;rintro _ Y ⟨Z, fc, rfl, B⟩;obtain rfl := B.symm;rw [y];refine ⟨aT, fun p => ?_⟩;refine aj 8 2 p ?_;refine aJ ?_;refine ai (fun O => ?_) fun O => ?_;refine ah (ap call42 (M5 z.x.v g.ls g.ln 7 (by omega))) ?_;rw [Qad (show gr 7 = true by decide), Qad (show gr 7 = true by decide), Qad (show gr 7 = true by decide), show (7 : Int).toNat = 7 from rfl];refine bu () ?_ (he := ?_);trivial;rw [← d];show Ent _ (pt gb (cH z g) :: pt z.x.r (dD g.c.rl g.c.pc) :: pt z.x.c (dZ g.c.cs z.i) :: fJ z.tr g.es :: lw z.x.v (if nf g.tm ((dR g.clock : Nat) : Int) = 0 then g.ls else mr g.ls g.ln 7, if nf g.tm ((dR g.clock : Nat) : Int) = 0 then g.ln else jZ g.ls g.ln 7) :: lx z.x.t (tu g.tm ((dR g.clock : Nat) : Int)) :: R);rw [y, Qaa (by omega), Qaa (by omega)];exact IO;refine bu () ?_ (he := ?_);trivial;rw [← d];show Ent _ (pt gb (cH z g) :: pt z.x.r (dD g.c.rl g.c.pc) :: pt z.x.c (dZ g.c.cs z.i) :: fJ z.tr g.es :: lw z.x.v (if nf g.tm ((dR g.clock : Nat) : Int) = 0 then g.ls else mr g.ls g.ln 7, if nf g.tm ((dR g.clock : Nat) : Int) = 0 then g.ln else jZ g.ls g.ln 7) :: lx z.x.t (tu g.tm ((dR g.clock : Nat) : Int)) :: R);rw [y, Qad (by omega), Qad (by omega)];exact IO;intro _ _;clear d;obtain ⟨qc, P, Q, C, a, s, D, S, E, J, T, u⟩ := q;dsimp only at f A m o ⊢;subst f; subst m; subst o;have U := h.c;refine aw ?_;refine ah (ap call204 (a2M z.x.c h.c.cs)) ?_;rw [l];refine ai (fun F => ?_) fun F => ?_;refine ac ?_;rw [Qaa (by simpa using F)];exact ao;rw [Qad (by simpa using F)];refine ah (ap call205 (a4o z.x.v a s)) ?_;obtain ⟨w, j⟩ : ∃ b, jF a = b := ⟨_, rfl⟩
 rw [j];have G : w = none → mt a = a := fun e => by unfold mt; rw [j, e]
 have H : ∀ n, w = some n → n < 8 := fun n e => (yD (j.trans e)).1;refine ai (fun I => ?_) fun I => ?_;refine ac ?_
 cases w with
 | some n => exact absurd rfl I
 | none =>
  rw [G rfl];exact ao
 obtain ⟨n, rfl⟩ : ∃ n, w = some n := by
  cases w with
  | some n => exact ⟨n, rfl⟩
  | none => simp at I
 have V := H n rfl;rw [Option.getD_some];refine ah (ap sh (qJ z.x.r g.c.rl g.c.pc h.c.r.len)) ?_;refine aa (bD (cW (by omega))) ?_;refine aa (dU (256 + n)) ?_;refine ah (ap call206 (Lu z.x.c g.c.pc (256 + n) 0 h.c.cs h.c.pc (by omega) (by decide))) ?_;refine ah (ap Cz (y5 z.x.r g.c.rl g.c.pc (d9 g.c.cs 1) h.c.r.len)) ?_;refine ah (cM v9 (tx W0 _ gb z ⟨⟨g.c.rl, d9 g.c.cs 1, me g.c.cs g.c.pc (256 + n) 0⟩, P, Q, C, mt a, s, D, S, E, g.clock, g.es, u⟩ (h.k (by omega)) h.c.r.len 3 (256 + n) 0 g.c.pc)) ?_;exact ac ao
theorem Bz (k : ∀ A, bC (aQ W0 A) 1 0 j9) (l : ∀ A, bC (aQ W0 A) 0 0 kX) (h : GOk z g N) (o : N ≤ 600) (m : cB fr) : sQ W0 61 [pV gb] (gS gb z g fr pg R) (iQ (eR z.i g fr pg).1.1) (gS gb z (eR z.i g fr pg).1.2 (eR z.i g fr pg).2 pg R) := by
 have n := h.clk;have f := h.clock;have j := (f.fired).int;obtain ⟨q, c⟩ : ∃ q, fF (iS (iZ g)) = q := ⟨_, rfl⟩
 have b : q.2.bud = g.bud := by
  grind [fF]
 rw [c] at j;rw [eR, c];refine am func61 ntmps61 ?_;refine ah (ap lD (l5 W0 _ gb z g)) ?_;refine aa (dU (g.clock + 1)) ?_;refine ar (iX (by exact rfl : (ly z g).set 27 (iQ ((g.clock + 1 : Nat) : Int)) = ly z (iZ g))) ?_;refine ai (fun d => ?_) fun d => ?_;refine ac ?_;rw [Qad d];exact ao;rw [Qaa d];refine ah (vA call140 rfl (a41 W0 _ gb z (iZ g) (N + 1) f (by omega))) ?_;rw [c];refine ai (fun e => ?_) fun e => ?_;refine ac ?_;rw [Qad e];unfold gS;rw [← b];exact ao;rw [Qaa e, ← b];refine ah (vA call141 rfl (a40 W0 _ gb z q.2 (N + 1 + 1 + 1) fr pg k l j (by omega) m)) ?_;have a := FG z.i q.2 fr pg;refine ac ?_;refine ⟨_, ⟨rfl, rfl⟩, ?_⟩;unfold gS;rw [a.1, a.2.1, a.2.2];exact IO
end
theorem a42 {po Ls} {f w : Nat} (h : LsOk po Ls) (a : f < po.length) (c : d6 po f = ((w : Int), true)) : LsOk (po.set f (-1, false)) Ls := by
 refine ⟨h.len, fun u b => ?_⟩;rw [E8 a (by grind) (by grind)];exact h.row u b
theorem Ml pb ps po fr (f w : Nat) (hf : f < po.length) (hff : f < fr.length) (hw : w < 16) (hP : PoOk po) (ha : d6 po f = ((w : Int), true)) : sQ W0 124 [pV pb, .int .i64 f] (cR pb (ps, po) :: aY ps fr :: R) (.int .i64 0) (cR pb (ps, po.set f (w, false)) :: aY ps (fr.set f cm) :: R) := by
 refine ju 10 func124 ntmps124 ?_;refine dV 3 (gU zu rfl (vW pb ps po (by omega))) ?_;refine aA rfl (fun j => ?_) fun j => ?_;exact absurd j (by decide);refine au 4 ?_;refine dV 4 (gU Oc rfl (Eh pb ps po (f : Int))) ?_;refine aA rfl (fun k => ?_) fun k => ?_;exact absurd k (by rw [show dN po.length (f : Int) = true from by simp [dN]; omega]; decide);refine aO ?_;refine vU (pb := pb) fun a c d h p q => ?_;refine fT (r := osl 204 2) (b := .slice a po.length c) (km (fun l i => by have := Qai List.length i; rw [qC] at this; simp at this; omega) fun g n s m l i t v u => ?_);cases l;have e := Eg po m f 1 hf (by decide);rw [ha] at e;refine au 6 ?_;refine ae rfl (jM zk C7 rfl rfl rfl hf (by first | exact Qac _ | rfl)) ?_;refine ae rfl (D8 Gq iT) ?_;refine jP 4 (cu nk rfl (aI e)) ?_;refine aA rfl (fun o => ?_) fun o => ?_;simp at o;refine au 4 ?_;refine eD (B := pt pb (ag (fY ps (.slice (some ⟨g, 0, none⟩) po.length c) d) 202) :: osl 204 2 (.slice (some ⟨g, 0, none⟩) po.length c) (po.flatMap fw) :: kH 2 (cv ((d.zip h).map eu)) :: aY ps fr :: R) ?_ ?_;refine Ent.trans (B := pt g (ag (po.flatMap fw ++ m) 204) :: pt pb (ag (fY ps (.slice (some ⟨g, 0, none⟩) po.length c) d) 202) :: kH 2 (cv ((d.zip h).map eu)) :: aY ps fr :: R) inferInstance ?_;refine (fk (g := g) (E := 204) (sz := 2) (B := pt pb (ag (fY ps (.slice (some ⟨g, 0, none⟩) po.length c) d) 202) :: kH 2 (cv ((d.zip h).map eu)) :: aY ps fr :: R) i t (qC po) u).trans inferInstance;refine au 3 ?_;refine dV 4 (lM call99 rfl (Je pb ps po fr f w true hf hff hw hP ha (some ⟨g, 0, none⟩) c d h p (a42 q hf ha))) ?_;exact ac ao
theorem a43 pb ps po w (n : 0 < po.length) (f : w < 16) (p : PoOk po) (o : bN po w = []) : sQ W0 117 [pV pb, iQ w] (cR pb (ps, po) :: R) (.tuple #[iQ 0, iQ 2]) (cR pb (ps, po) :: R) := by
 have g : pL w = true := by grind [pL]
 refine am func117 ntmps117 ?_;refine ah (ap zu (vW pb ps po n)) ?_;refine ah (aC GM (AE w)) ?_;refine aA rfl (fun j => ?_) fun j => ?_;exact absurd j (by simp [g]);refine au 1 ?_;refine vU (pb := pb) fun a c d b k h => ?_;have e := h.row w f;refine eD (B := j6 w pb (b.getD w [], fY ps (.slice a po.length c) d) :: kH 3 (cv (((d.zip b).map eu).eraseIdx w)) :: osl 204 2 (.slice a po.length c) (po.flatMap fw) :: R) ?_ ?_;exact (Ent.cons (Ent.ofPerm (List.Perm.swap _ _ _))).trans (Az f k h.len);refine aw ?_;refine aa (ew f) ?_;refine ah (ap GK (AD pb w (b.getD w []) (fY ps (.slice a po.length c) d))) ?_;refine ai (fun l => ?_) fun l => ?_;refine az ?_;refine ⟨_, ⟨rfl, rfl⟩, ?_⟩;have m : b.set w (b.getD w []) = b := by
  apply QaP (by simp);intro i q r;rw [List.getElem_set];split;grind;rfl
 exact Ent.trans (B := j6 w pb (b.getD w [], fY ps (.slice a po.length c) d) :: osl 204 2 (.slice a po.length c) (po.flatMap fw) :: kH 3 (cv (((d.zip b).map eu).eraseIdx w)) :: R) inferInstance (AA f k rfl rfl h.len (by grind));exact absurd (by rw [e.1.length_eq, o]; rfl) l
structure Mm where
  fr : List aB
  pg : List Pl
  po : Po
structure GMem (i : Nat) (x : Mm) : Prop where
  fr : cB x.fr
  po : PoOk x.po
  pg : Pgs x.pg
  len : x.po.length = x.fr.length
  pl : PlOk x.fr.length x.pg
  own : ∀ t : Nat, t < 8 → aK x.pg t = true → d6 x.po (bF x.pg t).1.toNat = ((i : Int), true)
  all : ∀ f, f < x.po.length → d6 x.po f = ((i : Int), true) → ∃ t : Nat, t < 8 ∧ aK x.pg t = true ∧ (bF x.pg t).1 = (f : Int)
  far : ∀ t : Nat, 8 ≤ t → aK x.pg t = true → (d6 x.po (bF x.pg t).1.toNat).1 ≠ (i : Int)
  nul : ∀ f, f < x.po.length → d6 x.po f = ((i : Int), false) → x.fr.getD f [] = cm
theorem MOk.frame {fr fr' pg d L T} (h : MOk fr pg d L T) (b : fr'.length = fr.length) (c : cB fr') (e : ∀ t : Nat, t < 8 → aK pg t = true → fr'.getD (bF pg t).1.toNat [] = fr.getD (bF pg t).1.toNat []) : MOk fr' pg d L T := by
 refine ⟨c, h.dl, h.P, by rw [b]; exact h.pl, h.ti, fun x f => ?_⟩;have a := h.ln x f;refine a.move a.at_.1 rfl fun t g i => ⟨i, fun q => F3 b rfl rfl fun _ o m => ?_⟩
 have j := a.own;obtain ⟨k, rfl⟩ : ∃ k : Nat, t = (k : Int) := ⟨t.toNat, by rcases g with rfl | rfl <;> omega⟩
 have l : k < 8 := by omega
 have := e k l q;unfold jR;rw [b, this]
theorem yK {pg} (h : Pgs pg) {t} (b : aK pg t = true) : 0 ≤ (bF pg t).1 ∧ (bF pg t).1 < 32 := by
 have a := b;simp only [aK, Qao, Qaj] at a;obtain ⟨i, rfl, c⟩ := kM a.1;rw [Qae] at a;rw [bF, Qad b, Qae];have := h.ok i c a.2;simp only [lp, Qaj] at this;omega
theorem GMem.at_ {i x} (h : GMem i x) {t} (a : aK x.pg t = true) : ∃ f : Nat, (bF x.pg t).1 = f ∧ f < x.fr.length ∧ f < x.po.length := by
 have b := yK h.pg a;have c := h.pl.rng t a;exact ⟨(bF x.pg t).1.toNat, by omega, by omega, by rw [h.len]; omega⟩
def nh (i n : Nat) (x : Mm) : Mm := ⟨x.fr.set (bF x.pg n).1.toNat cm, eZ x.pg n, x.po.set (bF x.pg n).1.toNat ((i : Int), false)⟩
theorem Mn {fr} (h : cB fr) f : cB (fr.set f cm) := fun y a => by
 rcases Qco a with q | q;exact h y q;rw [q]; exact Il
theorem yL {pg} {n : Nat} (d : pg.length = 12) {t} : aK (eZ pg n) t = (aK pg t && decide (t ≠ n)) := by
 unfold eZ;by_cases a : aK pg n = true;rw [Qad a, Qae];by_cases e : t = (n : Int);subst e;rw [Qal (by simp), QcU];unfold aK;rw [Qae];have b := L8 a;obtain ⟨j, f, c⟩ := kM b;have : eG (pg.set n (0, 0)) n = (0, 0) := by grind [eG]
 rw [this]; simp;grind [g5];grind
theorem BA {pg} {n : Nat} {t} (e : t ≠ (n : Int)) : bF (eZ pg n) t = bF pg t := by
 unfold eZ;split;rw [Qae]; exact (g5 e).2;rfl
theorem FH {α : Type} {l : List α} {n k x d} (h : k ≠ n) : (l.set n x).getD k d = l.getD k d := by
 grind
theorem b0i {α : Type} {l : List α} {n x d} (h : n < l.length) : (l.set n x).getD n d = x := by
 grind
theorem GMem.give {i n : Nat} {x} (h : GMem i x) (hn : n < 8) (ht : aK x.pg n = true) (hi : i < 16) : GMem i (nh i n x) := by
 obtain ⟨f, hf, hff, hfp⟩ := h.at_ ht;have ho := h.own n hn ht;rw [hf, Qae] at ho;have hg : nh i n x = ⟨x.fr.set f cm, eZ x.pg n, x.po.set f ((i : Int), false)⟩ := by grind [nh]
 rw [hg];have ne : ∀ t : Nat, aK (eZ x.pg n) t = true → aK x.pg t = true ∧ t ≠ n ∧ bF (eZ x.pg n) t = bF x.pg t ∧ (bF x.pg t).1.toNat ≠ f := fun t q => by
  rw [yL h.pg.len, Qao, Qak] at q;have e : (t : Int) ≠ (n : Int) := q.2;refine ⟨q.1, fun e2 => e (by rw [e2]), BA e, fun e2 => e ?_⟩;have h1 := yK h.pg q.1;exact h.pl.inj _ _ q.1 ht (by omega)
 refine ⟨Mn h.fr f, h.po.set hfp (by simp) (by simp; omega), L9 h.pg, by rw [Qap, Qap]; exact h.len, ?_, fun t h8 q => ?_, fun k hk q => ?_, fun t h8 q => ?_, fun k hk q => ?_⟩;rw [Qap];exact LR (n := n) h.pg.len h.pl;obtain ⟨q1, q2, q3, q4⟩ := ne t q;dsimp only at q ⊢;rw [q3, jV hfp, Qaa q4];exact h.own t h8 q1;dsimp only at hk q ⊢;rw [Qap] at hk;rw [jV hfp] at q;split at q;grind
 rename_i e
 obtain ⟨t, h8, h1, h2⟩ := h.all k hk q;have hne : t ≠ n := fun e2 => e (by grind);refine ⟨t, h8, ?_, ?_⟩;rw [yL h.pg.len, h1, Qbb, Qak];intro e2; exact hne (by omega);grind [BA];obtain ⟨q1, q2, q3, q4⟩ := ne t q;dsimp only at q ⊢;rw [q3, jV hfp, Qaa q4];exact h.far t h8 q1;dsimp only at hk q ⊢;rw [Qap] at hk;rw [jV hfp] at q;by_cases e : k = f;grind;rw [Qaa e] at q;rw [FH e];exact h.nul k hk q
def k0 (i n : Nat) (x : Mm) : Mm := if aK x.pg n then nh i n x else x
def cr (i : Nat) : Nat → Mm → Mm
 | 0, x => x
 | n + 1, x => k0 i n (cr i n x)
theorem GMem.strip {i x} (h : GMem i x) (a : i < 16) : ∀ n, n ≤ 8 → GMem i (cr i n x)
 | 0, _ => h
 | n + 1, c => by
  have b := h.strip a n (by omega);rw [cr, k0];split
  rename_i q; exact b.give (by omega) q a
  exact b
theorem a44 {pg} {n : Nat} (h : aK pg n = true) : qP pg n = 0 := by rw [qP, Qad (L8 h), Qad h]
theorem a45 pb ps pm i x (h : GMem i x) (hi : i < 16) : sP W0 75 [pV pb, pV pm] (cR pb (ps, x.po) :: aY ps x.fr :: pt pm (bB x.pg) :: R) (fun v B => ∃ k : Nat, v = iQ k ∧ B = cR pb (ps, (cr i 8 x).po) :: aY ps (cr i 8 x).fr :: pt pm (bB (cr i 8 x).pg) :: R) := by
 refine am func75 ntmps75 ?_;refine d4 (fun X : Nat × Nat => X.1 ≤ 8 ∧ X.2 ≤ X.1) (fun X => [(0, pV pb), (1, pV pm), (5, iQ X.2), (9, iQ X.1)]) (fun X => cR pb (ps, (cr i X.1 x).po) :: aY ps (cr i X.1 x).fr :: pt pm (bB (cr i X.1 x).pg) :: R) (fun X => 8 - X.1) (0, 0) ?_ ?_;omega;intro ⟨n, m⟩ ⟨hn, hm⟩;dsimp only at hn hm ⊢;have hg := h.strip hi n hn;have hs : cr i (n + 1) x = k0 i n (cr i n x) := rfl;obtain ⟨y, hy⟩ : ∃ y, cr i n x = y := ⟨_, rfl⟩
 rw [hy] at hg hs ⊢;refine aw ?_;refine aA rfl (fun c3 => ?_) fun c3 => ?_;refine au 2 ?_;refine cF (fun X : Nat => n < 8 ∧ X ≤ n + 1) (fun X => [(0, pV pb), (1, pV pm), (5, iQ X), (9, iQ n)]) (fun X => cR pb (ps, (k0 i n y).po) :: aY ps (k0 i n y).fr :: pt pm (bB (k0 i n y).pg) :: R) ?_ ?_;refine au 11 ?_;refine ah (ap wL (uh pm y.pg hg.pg n)) ?_;refine bj fun b1 => ?_;refine ar aF ?_;refine cz (fun g6_3 => ?_) fun g6_3 => ?_;have hth : aK y.pg n = false := by grind
 have e1 : k0 i n y = y := by grind [k0]
 refine bu m ?_ (he := ?_);omega;rw [e1];exact IO;have hth : aK y.pg n = true := by grind
 obtain ⟨f, hf, hff, hfp⟩ := hg.at_ hth;have ho := hg.own n (by omega) hth;rw [hf, Qae] at ho;have e1 : k0 i n y = ⟨y.fr.set f cm, eZ y.pg n, y.po.set f ((i : Int), false)⟩ := by
  grind [k0, nh]
 refine ah (ap GF (La pm y.pg hg.pg n)) ?_;refine aA rfl (fun c6 => ?_) fun c6 => ?_;exact absurd c6 (by rw [a44 hth]; decide);refine au 6 ?_;refine ae rfl (aE (aI (v := iQ f) (by grind))) ?_;refine ah (cq call124 (Ml pb ps y.po y.fr f i hfp hff hi hg.po ho)) ?_;refine aa (dU (m + 1)) ?_;refine bu (m + 1) ?_ (he := ?_);omega;rw [e1];exact IO;intro X ⟨hn8, hX⟩;refine aw ?_;refine aa bY ?_;refine bR (n + 1, X) ?_ (he := ?_);omega;show Ent _ (cR pb (ps, (cr i (n + 1) x).po) :: aY ps (cr i (n + 1) x).fr :: pt pm (bB (cr i (n + 1) x).pg) :: R);rw [hs];exact IO;refine aw ?_;refine ac ?_;obtain rfl : n = 8 := by omega
 rw [hy];exact ⟨_, ⟨m, rfl, rfl⟩, IO⟩
end
end Go.Proofs.YtbhimdcapbflkaaGreatDoor
