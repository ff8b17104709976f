/-
  Part 2 of the proof of GuestClock: rules, and walks of functions. Conditions: none.
-/
import Derived.Test.YtedopnjjkddhaaaGreatDoorGuestClockA
namespace Go.Proofs.YtedopnjjkddhaaaGreatDoor
open Go.Proofs.Tryz
set_option linter.unusedSimpArgs false
set_option linter.unusedVariables false
set_option maxRecDepth 20000
set_option linter.defProp false
set_option synthInstance.maxSize 8192
set_option synthInstance.maxHeartbeats 2000000
variable {W0 : World} {R : List HP}
section
open Go.RowKit
abbrev Pl := Int × Int
@[reducible] def fT (p : Pl) : List Value := [.int .i64 p.1, .int .i64 p.2]
theorem qV (p : Pl) : (fT p).length = 2 := rfl
def eL (pg : List Pl) (n : Nat) : Pl := pg.getD n (0, 0)
def jp (p : Pl) : Bool := decide (0 ≤ p.1 ∧ p.1 < 32 ∧ 1 ≤ p.2 ∧ p.2 ≤ 3)
structure Pgs (pg : List Pl) : Prop where
  len : pg.length = 12
  ok : ∀ n, n < 12 → eL pg n ≠ (0, 0) → jp (eL pg n) = true
def gG (n : Int) : Bool := decide (0 ≤ n ∧ n < 12)
theorem jq {n : Int} (h : gG n = true) : ∃ i : Nat, n = (i : Int) ∧ i < 12 := by
 simp only [gG, decide_eq_true_eq] at h
 exact ⟨n.toNat, by omega, by omega⟩
abbrev bJ (pg : List Pl) : Obj := ac (pg.flatMap fT ++ [.bool true]) 233
theorem AA {pg : List Pl} {sp : List Value} {n : Nat} (hn : n < pg.length) : ((pg.flatMap fT ++ sp).drop (n * 2)).take 2 = fT (eL pg n) := by
 rw [pC qV pg n sp hn]; simp [eL, List.getD, hn]
theorem AB {pg : List Pl} {sp : List Value} {n : Nat} {p : Pl} (hn : n < pg.length) : setR (pg.flatMap fT ++ sp) (n * 2) (fT p) = (pg.set n p).flatMap fT ++ sp := sB qV pg n p sp hn
theorem EE (pg : List Pl) (sp : List Value) : (pg.flatMap fT ++ sp).length = pg.length * 2 + sp.length := by rw [List.length_append, cz qV]
theorem Pv {pg : List Pl} (h : pg.length = 12) : (pg.flatMap fT ++ [.bool true])[24]? = some (Value.bool true) := by
 rw [List.getElem?_append_right (by rw [cz qV]; omega), cz qV, h]; rfl
theorem Pw : sP W0 98 [] R (fun v B => ∃ b, v = .pointer (some ⟨b, 0, none⟩) ∧ B = pt b (bJ (List.replicate 12 (0, 0))) :: R) := by
 refine ai 7 func98 ntmps98 ?_
 refine a7 rfl (bq ZR zeroValue233 (am J9 (am bI bj)) (aI rfl bI rfl rfl (Nat.le_of_ble_eq_true rfl) SetL.eq bi)) ?_
 refine ax (aV rfl) fun b1 => ?_
 refine au 4 ?_
 refine ae ?_
 exact ⟨_, ⟨b1, rfl, rfl⟩, ent_refl⟩
theorem uQ (b : Nat) (pg : List Pl) (h : Pgs pg) : sQ W0 110 [.pointer (some ⟨b, 0, none⟩)] (pt b (bJ pg) :: R) (.bool false) (pt b (bJ pg) :: R) := by
 refine ai 10 func110 ntmps110 ?_
 refine bB rfl rfl rfl (fun g1_3 => ?_) fun g1_3 => ?_
 ·cases g1_3
 refine au 6 ?_
 refine ap 7 (aA gz rfl (aN (Pv h.len))) ?_
 exact ae aL
theorem uR (n : Int) : sQ W0 114 [.int .i64 n] R (.bool (gG n)) R := by
 refine ai 10 func114 ntmps114 ?_
 refine cp rfl rfl rfl (fun g1_3 => ?_) fun g1_3 => ?_
 ·refine au 8 ?_
  refine ae ?_
  refine aR ?_
  refine congrArg Value.bool ?_
  rw [Bool.eq_iff_iff]; simp only [gG, decide_eq_true_eq, Bool.false_eq_true, false_iff]; omega
 refine au 6 ?_
 refine ae ?_
 refine aR ?_
 refine congrArg Value.bool ?_
 rw [Bool.eq_iff_iff]; simp only [gG, decide_eq_true_eq, Bool.false_eq_true, false_iff]; omega
theorem Px (p : Pl) : sQ W0 115 [.agg (fT p).toArray] R (.bool (jp p)) R := by
 refine ai 2 func115 ntmps115 ?_
 refine ax (aV rfl) fun b1 => ?_
 refine au 9 ?_
 refine cp rfl rfl rfl (fun g1_4 => ?_) fun g1_4 => ?_
 ·refine au 7 ?_
  refine cp rfl rfl rfl (fun g1_9 => ?_) fun g1_9 => ?_
  ·refine au 7 ?_
   refine cp rfl rfl rfl (fun g1_14 => ?_) fun g1_14 => ?_
   ·refine au 10 ?_
    refine ae ?_
    refine aR ?_
    refine congrArg Value.bool ?_
    rw [Bool.eq_iff_iff]; simp only [jp, decide_eq_true_eq, Bool.false_eq_true, false_iff]; omega
   refine au 7 ?_
   refine ae ?_
   refine aR ?_
   refine congrArg Value.bool ?_
   rw [Bool.eq_iff_iff]; simp only [jp, decide_eq_true_eq, Bool.false_eq_true, false_iff]; omega
  refine au 12 ?_
  refine ae ?_
  refine aR ?_
  refine congrArg Value.bool ?_
  rw [Bool.eq_iff_iff]; simp only [jp, decide_eq_true_eq, Bool.false_eq_true, false_iff]; omega
 refine au 17 ?_
 refine ae ?_
 refine aR ?_
 refine congrArg Value.bool ?_
 rw [Bool.eq_iff_iff]; simp only [jp, decide_eq_true_eq, Bool.false_eq_true, false_iff]; omega
def aP (pg : List Pl) (n : Int) : Bool := gG n && decide (eL pg n.toNat ≠ (0, 0))
theorem AC (b : Nat) (pg : List Pl) (h : Pgs pg) (n : Int) : sQ W0 111 [.pointer (some ⟨b, 0, none⟩), .int .i64 n] (pt b (bJ pg) :: R) (.bool (aP pg n)) (pt b (bJ pg) :: R) := by
 refine ai 8 func111 ntmps111 ?_
 refine aM (aD zq rfl (uR n)) ?_
 refine a7 rfl (aH rfl) ?_
 refine cp rfl rfl rfl (fun g1_3 => ?_) fun g1_3 => ?_
 ·obtain ⟨i, rfl, hi⟩ := jq g1_3
  have hl := h.len
  refine au 8 ?_
  refine a7 rfl (dI ww fm rfl rfl rfl (by omega) (by first | exact Nat.zero_add _ | rfl)) ?_
  refine cP rfl rfl ?_
  refine a7 rfl (b0 pd fm rfl (cC (AA (by omega)) rfl) rfl) ?_
  refine cP rfl rfl (a7 rfl (bq mX jh (am aj (am aj bj)) bi) ?_)
  refine cP rfl rfl (ap 5 (DG Tryz.eqGuardType117 rfl rfl (uv mX Tryz.stoodInHeld117 (ng rfl aX rfl rfl (nf cW) (ng rfl aX rfl rfl (nf cW) uu)))) ?_)
  refine ae ?_
  refine aR ?_
  refine congrArg Value.bool ?_
  first
   | (rw [Bool.eq_iff_iff]; simp [aP, g1_3, Prod.ext_iff])
   | simp [aP, g1_3]
 refine au 12 ?_
 refine ae ?_
 refine aR ?_
 refine congrArg Value.bool ?_
 first
  | (rw [Bool.eq_iff_iff]; simp [aP, g1_3, Prod.ext_iff])
  | simp [aP, g1_3]
def cm (pg : List Pl) (n : Int) : Pl := if aP pg n then eL pg n.toNat else (0, 0)
theorem qW (b : Nat) (pg : List Pl) (h : Pgs pg) (n : Int) : sQ W0 47 [.pointer (some ⟨b, 0, none⟩), .int .i64 n] (pt b (bJ pg) :: R) (.tuple #[.agg (fT (cm pg n)).toArray, .bool (aP pg n)]) (pt b (bJ pg) :: R) := by
 refine ai 2 func47 ntmps47 ?_
 refine ax (aS jh) fun b1 => ?_
 refine au 7 ?_
 refine aM (ao zr rfl (uQ b pg h)) ?_
 refine a7 rfl (aH rfl) ?_
 refine bB rfl rfl rfl (fun g1_3 => ?_) fun g1_3 => ?_
 ·exact absurd g1_3 (by decide)
 refine au 4 ?_
 refine ar 5 (ao Jz rfl (AC b pg h n)) ?_
 refine a8 rfl (fun c1 => ?_) fun c1 => ?_
 ·refine au 2 ?_
  refine a7 rfl (bq mX jh (am aj (am aj bj)) bi) ?_
  refine aE 5 (aF fm rfl rfl rfl rfl rfl) ?_
  refine bY (.cons (cg pd fm rfl rfl) (.cons (bK rfl) .nil)) ?_
  refine aR ?_
  have ht : aP pg n = false := by simpa using c1
  simp [bz, cm, ht]
 have ht : aP pg n = true := by simpa using c1
 have hp : gG n = true := by simp only [aP, Bool.and_eq_true] at ht; exact ht.1
 obtain ⟨i, rfl, hi⟩ := jq hp
 have hl := h.len
 refine au 8 ?_
 refine a7 rfl (dI ww fm rfl rfl rfl (by omega) (by first | exact Nat.zero_add _ | rfl)) ?_
 refine a7 rfl (b0 pd fm rfl (cC (AA (by omega)) rfl) rfl) ?_
 refine aE 4 (aF fm rfl rfl rfl rfl rfl) ?_
 refine bY (.cons (cg pd fm rfl rfl) (.cons (bK rfl) .nil)) ?_
 refine aR ?_
 simp [bz, cm, ht]
def ej (pg : List Pl) (n : Int) (p : Pl) : Int := if gG n ∧ jp p then (if aP pg n then 5 else 0) else 1
def dJ (pg : List Pl) (n : Int) (p : Pl) : List Pl := if ej pg n p = 0 then pg.set n.toNat p else pg
theorem qX {pg : List Pl} {n : Int} {p : Pl} (h : Pgs pg) : Pgs (dJ pg n p) := by
 unfold dJ; split
 ·rename_i hs
  have hop : jp p = true := by
   unfold ej at hs; split at hs
   ·rename_i k; exact k.2
   omega
  refine ⟨by simp [h.len], fun m hm hne => ?_⟩
  unfold eL at hne ⊢
  by_cases e : n.toNat = m
  ·subst e
   simp only [List.getD_eq_getElem?_getD, List.getElem?_set, if_true] at hne ⊢
   rw [if_pos (by rw [h.len]; exact hm)] at hne ⊢
   exact hop
  simp only [List.getD_eq_getElem?_getD, List.getElem?_set_ne e] at hne ⊢
  have := h.ok m hm
  unfold eL at this
  simp only [List.getD_eq_getElem?_getD] at this
  exact this hne
 exact h
theorem AD (b : Nat) (pg : List Pl) (h : Pgs pg) (n : Int) (p : Pl) : sQ W0 49 [.pointer (some ⟨b, 0, none⟩), .int .i64 n, .agg (fT p).toArray] (pt b (bJ pg) :: R) (.int .i64 (ej pg n p)) (pt b (bJ (dJ pg n p)) :: R) := by
 have hl := h.len
 refine ai 2 func49 ntmps49 ?_
 refine ax (aV rfl) fun b1 => ?_
 refine au 8 ?_
 refine ar 3 (ao zr rfl (uQ b pg h)) ?_
 refine a8 rfl (fun c1 => ?_) fun c1 => ?_
 ·exact absurd c1 (by decide)
 refine au 4 ?_
 refine ar 4 (aD zq rfl (uR n)) ?_
 refine a8 rfl (fun c3 => ?_) fun c3 => ?_
 ·refine au 11 ?_
  refine ae ?_
  have he : ej pg n p = 1 := by
   unfold ej; rw [if_neg]
   first
    | (intro hk; exact absurd hk.1 (by simpa using c3))
    | (intro hk; exact absurd hk.2 (by simpa using c4))
  exact ⟨_, ⟨by simp [bz, he], by rw [dJ, he, if_neg (by decide)]⟩, inferInstance⟩
 have hp : gG n = true := by simpa using c3
 refine au 2 ?_
 refine ar 4 (aD call115 rfl (Px p)) ?_
 refine a8 rfl (fun c4 => ?_) fun c4 => ?_
 ·refine au 8 ?_
  refine ae ?_
  have he : ej pg n p = 1 := by
   unfold ej; rw [if_neg]
   first
    | (intro hk; exact absurd hk.1 (by simpa using c3))
    | (intro hk; exact absurd hk.2 (by simpa using c4))
  exact ⟨_, ⟨by simp [bz, he], by rw [dJ, he, if_neg (by decide)]⟩, inferInstance⟩
 have ho : jp p = true := by simpa using c4
 refine au 4 ?_
 refine ar 3 (ao Jz rfl (AC b pg h n)) ?_
 refine a8 rfl (fun c6 => ?_) fun c6 => ?_
 ·refine au 8 ?_
  refine ae ?_
  have he : ej pg n p = 5 := by
   unfold ej; rw [if_pos ⟨hp, ho⟩, if_pos c6]
  exact ⟨_, ⟨by simp [bz, he], by rw [dJ, he, if_neg (by decide)]⟩, inferInstance⟩
 have ht : aP pg n = false := by simpa using c6
 have he : ej pg n p = 0 := by simp [ej, hp, ho, ht]
 refine au 4 ?_
 obtain ⟨i, rfl, hi⟩ := jq hp
 refine aU [(b1, 0, _)] 7 aT rfl (aa ag) (fun hS => ?_)
 refine ah 0 2 hS ?_
 refine av 2 rfl rfl rfl hS (b0 pd fm rfl (co (k := 0) rfl) rfl) ?_
 refine ah 3 2 hS ?_
 refine av 5 rfl rfl rfl hS (dI ww fm rfl rfl rfl hi (by first | exact Nat.zero_add _ | rfl)) ?_
 refine bU 6 rfl rfl (ed fm rfl rfl rfl rfl (by rw [EE, hl]; omega) (AB (by omega))) (aa ag) fun hS => ?_
 refine aK ?_
 refine au 7 ?_
 refine ae ?_
 rw [show dJ pg i p = pg.set i p by simp [dJ, he]]
 exact ⟨_, ⟨by simp [bz, he], rfl⟩, inferInstance⟩
theorem Py (b : Nat) (pg : List Pl) (h : Pgs pg) : sQ W0 50 [.pointer (some ⟨b, 0, none⟩), .int .i64 12] (pt b (bJ pg) :: R) (.int .i64 1) (pt b (bJ pg) :: R) := by
 refine ai 10 JA ntmps50 ?_
 refine ar 3 (ao zr rfl (uQ b pg h)) ?_
 refine a8 rfl (fun c1 => ?_) fun c1 => ?_
 ·exact absurd c1 (by decide)
 refine au 3 ?_
 refine ar 4 (aD zq rfl (uR 12)) ?_
 refine a8 rfl (fun c3 => ?_) fun c3 => ?_
 ·refine au 8 ?_
  exact ae aL
 exact absurd c3 (by decide)
def pI (n : Int) (p : Pl) (kind : Int) : Bool := decide (kind = 0 ∧ n < 8 ∨ kind = 1 ∧ p.2 % 2 = 1 ∨ kind = 2 ∧ 2 ≤ p.2)
theorem pJ {p : Pl} : jp p = true ↔ 0 ≤ p.1 ∧ p.1 < 32 ∧ 1 ≤ p.2 ∧ p.2 ≤ 3 := by simp [jp]
theorem Pz {r : Int} (h : 1 ≤ r ∧ r ≤ 3) : fq .i64 r 1 = r % 2 := by
 have : r = 1 ∨ r = 2 ∨ r = 3 := by omega
 rcases this with rfl | rfl | rfl <;> decide
theorem PC {r : Int} (h : 1 ≤ r ∧ r ≤ 3) : fq .i64 r 2 = r / 2 * 2 := by
 have : r = 1 ∨ r = 2 ∨ r = 3 := by omega
 rcases this with rfl | rfl | rfl <;> decide
theorem PD (n : Int) (p : Pl) (hp : jp p = true) (kind : Int) : sQ W0 203 [.int .i64 n, .agg (fT p).toArray, .int .i64 kind] R (.bool (pI n p kind)) R := by
 have ho := pJ.1 hp
 refine ai 2 func203 ntmps203 ?_
 refine ax (aV rfl) fun b1 => ?_
 refine au 16 ?_
 refine a8 rfl (fun c2 => ?_) fun c2 => ?_
 ·refine au 10 ?_
  refine ae ?_
  refine aR ?_
  refine congrArg Value.bool ?_
  rw [Bool.eq_iff_iff]; simp only [pI, decide_eq_true_eq, Bool.false_eq_true, false_iff, bne_iff_ne]; omega
 refine au 6 ?_
 refine a8 rfl (fun c4 => ?_) fun c4 => ?_
 ·refine au 4 ?_
  refine ap 7 (fJ rfl rfl (Pz ⟨ho.2.2.1, ho.2.2.2⟩)) ?_
  refine ae ?_
  refine aR ?_
  refine congrArg Value.bool ?_
  rw [Bool.eq_iff_iff]; simp only [pI, decide_eq_true_eq, Bool.false_eq_true, false_iff, bne_iff_ne]; omega
 refine au 6 ?_
 refine a8 rfl (fun c6 => ?_) fun c6 => ?_
 ·refine au 4 ?_
  refine ap 7 (fJ rfl rfl (PC ⟨ho.2.2.1, ho.2.2.2⟩)) ?_
  refine ae ?_
  refine aR ?_
  refine congrArg Value.bool ?_
  rw [Bool.eq_iff_iff]; simp only [pI, decide_eq_true_eq, Bool.false_eq_true, false_iff, bne_iff_ne]; omega
 refine au 9 ?_
 refine ae ?_
 refine aR ?_
 refine congrArg Value.bool ?_
 rw [Bool.eq_iff_iff]; simp only [pI, decide_eq_true_eq, Bool.false_eq_true, false_iff, bne_iff_ne]; omega
def fZ (pg : List Pl) (n kind : Int) : Int := if aP pg n then (if pI n (eL pg n.toNat) kind then 0 else 6) else 7
theorem PE {pg : List Pl} {n : Int} (h : Pgs pg) (ht : aP pg n = true) : jp (cm pg n) = true := by
 simp only [cm, ht, if_true]
 simp only [aP, Bool.and_eq_true, decide_eq_true_eq] at ht
 obtain ⟨i, rfl, hi⟩ := jq ht.1
 exact h.ok _ (by simpa using hi) ht.2
theorem EF (b : Nat) (pg : List Pl) (h : Pgs pg) (n kind : Int) : sQ W0 134 [.pointer (some ⟨b, 0, none⟩), .int .i64 n, .int .i64 kind] (pt b (bJ pg) :: R) (.int .i64 (fZ pg n kind)) (pt b (bJ pg) :: R) := by
 refine ai 9 func134 ntmps134 ?_
 refine ar 3 (ao ug rfl (qW b pg h n)) ?_
 refine ax (aS jh) fun b1 => ?_
 refine aE 12 (aF fm rfl rfl rfl rfl rfl) ?_
 refine a8 rfl (fun c2 => ?_) fun c2 => ?_
 ·refine au 8 ?_
  refine ae ?_
  refine aR ?_
  have ht : aP pg n = false := by simpa using c2
  simp [bz, fZ, ht]
 have ht : aP pg n = true := by simpa using c2
 refine au 5 ?_
 refine ar 4 (aD call203 rfl (PD n (cm pg n) (PE h ht) kind)) ?_
 refine a8 rfl (fun c4 => ?_) fun c4 => ?_
 ·refine au 8 ?_
  refine ae ?_
  refine aR ?_
  have hm : pI n (eL pg n.toNat) kind = false := by simpa [cm, ht] using c4
  simp [bz, fZ, ht, hm]
 refine au 9 ?_
 refine ae ?_
 refine aR ?_
 have hm : pI n (eL pg n.toNat) kind = true := by simpa [cm, ht] using c4
 simp [bz, fZ, ht, hm]
abbrev cr (ps pm d : Nat) : Obj := ac [.pointer (some ⟨ps, 0, none⟩), .pointer (some ⟨pm, 0, none⟩), .int .u32 (d : Nat)] 139
theorem uS (pv ps pm d : Nat) : sQ W0 109 [.pointer (some ⟨pv, 0, none⟩)] (pt pv (cr ps pm d) :: R) (.bool false) (pt pv (cr ps pm d) :: R) := by
 refine ai 10 func109 ntmps109 ?_
 refine bB rfl rfl rfl (fun g1_3 => ?_) fun g1_3 => ?_
 ·cases g1_3
 refine au 14 ?_
 exact ae aL
def gi (pa : Nat) (w : Int) : Bool := decide ((w = 1 ∨ w = 2 ∨ w = 4) ∧ (pa : Int) % w = 0)
theorem PG (pa : Nat) (hpa : pa < 4294967296) (w : Int) : sQ W0 133 [.int .u32 pa, .int .i64 w] R (.bool (gi pa w)) R := by
 refine ai 19 func133 ntmps133 ?_
 refine a8 rfl (fun c2 => ?_) fun c2 => ?_
 ·refine au 7 ?_
  refine a7 rfl (cX cW dk rfl (eA (by omega))) ?_
  refine ap 7 (ku rfl rfl (by omega) (Int.tmod_eq_emod_of_nonneg (by omega))) ?_
  refine ae ?_
  refine aR ?_
  refine congrArg Value.bool ?_
  rw [Bool.eq_iff_iff]; simp only [gi, decide_eq_true_eq, beq_iff_eq]
  first
   | (subst c2; simp)
   | (subst c3; simp)
   | (subst c4; simp)
 refine au 6 ?_
 refine a8 rfl (fun c3 => ?_) fun c3 => ?_
 ·refine au 7 ?_
  refine a7 rfl (cX cW dk rfl (eA (by omega))) ?_
  refine ap 7 (ku rfl rfl (by omega) (Int.tmod_eq_emod_of_nonneg (by omega))) ?_
  refine ae ?_
  refine aR ?_
  refine congrArg Value.bool ?_
  rw [Bool.eq_iff_iff]; simp only [gi, decide_eq_true_eq, beq_iff_eq]
  first
   | (subst c2; simp)
   | (subst c3; simp)
   | (subst c4; simp)
 refine au 5 ?_
 refine a8 rfl (fun c4 => ?_) fun c4 => ?_
 ·refine au 4 ?_
  refine a7 rfl (cX cW dk rfl (eA (by omega))) ?_
  refine ap 7 (ku rfl rfl (by omega) (Int.tmod_eq_emod_of_nonneg (by omega))) ?_
  refine ae ?_
  refine aR ?_
  refine congrArg Value.bool ?_
  rw [Bool.eq_iff_iff]; simp only [gi, decide_eq_true_eq, beq_iff_eq]
  first
   | (subst c2; simp)
   | (subst c3; simp)
   | (subst c4; simp)
 refine au 9 ?_
 refine ae ?_
 refine aR ?_
 refine congrArg Value.bool ?_
 rw [Bool.eq_iff_iff]; simp only [gi, decide_eq_true_eq, Bool.false_eq_true, false_iff]; omega
def dR (n : Nat) (pg : List Pl) (pa : Nat) (w kind : Int) : Int :=
  if gi pa w then (if pa < 768 then (if fZ pg ((pa / 64 : Nat) : Int) kind = 0 then (if (cm pg ((pa / 64 : Nat) : Int)).1 < n then 0 else 7) else fZ pg ((pa / 64 : Nat) : Int) kind) else 2) else 1
def my (n : Nat) (pg : List Pl) (pa : Nat) (w kind : Int) : List Value :=
  if dR n pg pa w kind = 0 then [.int .i64 (pa / 64 : Nat), .int .i64 (cm pg ((pa / 64 : Nat) : Int)).1, .int .i64 (pa % 64 : Nat), .bool false] else [.int .i64 0, .int .i64 0, .int .i64 0, .bool false]
theorem xp (pv ps pm d : Nat) (fr : List aC) (pg : List Pl) (h : Pgs pg) (pa : Nat) (hpa : pa < 4294967296) (w kind : Int) : sQ W0 62 [.pointer (some ⟨pv, 0, none⟩), .int .u32 pa, .int .i64 w, .int .i64 kind] (pt pv (cr ps pm d) :: bu ps fr :: pt pm (bJ pg) :: R) (.tuple #[.agg (my fr.length pg pa w kind).toArray, .int .i64 (dR fr.length pg pa w kind)]) (pt pv (cr ps pm d) :: bu ps fr :: pt pm (bJ pg) :: R) := by
 refine ai 2 func62 ntmps62 ?_
 refine ax (aS ez) fun b1 => ?_
 refine au 8 ?_
 refine ar 3 (ao zt rfl (uS pv ps pm d)) ?_
 refine a8 rfl (fun c1 => ?_) fun c1 => ?_
 ·exact absurd c1 (by decide)
 refine au 4 ?_
 refine ar 4 (aD call133 rfl (PG pa hpa w)) ?_
 refine a8 rfl (fun c3 => ?_) fun c3 => ?_
 ·refine au 2 ?_
  refine a7 rfl (bq ib ez (am aj (am aj (am aj (am bI bj)))) bi) ?_
  refine aE 6 (aF cB rfl rfl rfl rfl rfl) ?_
  refine bY (.cons (cg ew cB rfl rfl) (.cons (bK rfl) .nil)) ?_
  refine aR ?_
  have ha : gi pa w = false := by simpa using c3
  have he : dR fr.length pg pa w kind = 1 := by simp [dR, ha]
  simp [bz, my, he]
 have ha : gi pa w = true := by simpa using c3
 refine au 7 ?_
 refine a8 rfl (fun c5 => ?_) fun c5 => ?_
 ·refine au 2 ?_
  refine a7 rfl (bq ib ez (am aj (am aj (am aj (am bI bj)))) bi) ?_
  refine aE 6 (aF cB rfl rfl rfl rfl rfl) ?_
  refine bY (.cons (cg ew cB rfl rfl) (.cons (bK rfl) .nil)) ?_
  refine aR ?_
  have he : dR fr.length pg pa w kind = 2 := by unfold dR; rw [if_pos ha, if_neg (by omega)]
  simp [bz, my, he]
 refine au 6 ?_
 refine a7 rfl (qE rfl rfl (by decide) ((congrArg (IntKind.wrap .u32) (uL pa 64)).trans (eA (by omega)))) ?_
 refine ap 12 (cX dk cW rfl (aG (by omega))) ?_
 refine ar 9 (ao call134 rfl (EF pm pg h ((pa / 64 : Nat) : Int) kind)) ?_
 refine a8 rfl (fun c9 => ?_) fun c9 => ?_
 ·refine au 2 ?_
  refine a7 rfl (bq ib ez (am aj (am aj (am aj (am bI bj)))) bi) ?_
  refine a7 rfl (aH rfl) (aE 5 (aF cB rfl rfl rfl rfl rfl) ?_)
  refine bY (.cons (cg ew cB rfl rfl) (.cons (bK rfl) .nil)) ?_
  refine aR ?_
  have he : dR fr.length pg pa w kind = fZ pg ((pa / 64 : Nat) : Int) kind := by unfold dR; rw [if_pos ha, if_pos (by omega), if_neg c9]
  rw [my, if_neg (by rw [he]; exact c9), he]; rfl
 have hz : fZ pg ((pa / 64 : Nat) : Int) kind = 0 := by simpa using c9
 refine au 9 ?_
 refine ar 3 (ao ug rfl (qW pm pg h ((pa / 64 : Nat) : Int))) ?_
 refine ax (aS jh) fun b2 => ?_
 refine aE 5 (aF fm rfl rfl rfl rfl rfl) ?_
 refine aU [(b2, 0, _), (pv, 0, _)] 8 aT rfl (aa (aa ag)) (fun hS => ?_)
 refine ah 0 6 hS ?_
 refine bF 6 rfl rfl (ao uh rfl (qU ps fr)) (aa (aa ag)) fun hS => ?_
 refine ah 7 1 hS ?_
 refine aK ?_
 refine aY ?_
 refine a8 rfl (fun c12 => ?_) fun c12 => ?_
 ·refine au 2 ?_
  refine a7 rfl (bq ib ez (am aj (am aj (am aj (am bI bj)))) bi) ?_
  refine aE 5 (aF cB rfl rfl rfl rfl rfl) ?_
  refine bY (.cons (cg ew cB rfl rfl) (.cons (bK rfl) .nil)) ?_
  refine aR ?_
  have he : dR fr.length pg pa w kind = 7 := by unfold dR; rw [if_pos ha, if_pos (by omega), if_pos hz, if_neg (by omega)]
  simp [bz, my, he]
 refine au 8 ?_
 refine a7 rfl (ku rfl rfl (by decide) (oe pa 64)) ?_
 refine a7 rfl (cX dk cW rfl (aG (by omega))) ?_
 refine a7 rfl (bq ib ez (am aj (am aj (am aj (am bI bj)))) (aI rfl aj rfl rfl (Nat.le_of_ble_eq_true rfl) SetL.eq (aI rfl aj rfl rfl (Nat.le_of_ble_eq_true rfl) SetL.eq (aI rfl aj rfl rfl (Nat.le_of_ble_eq_true rfl) SetL.eq bi)))) ?_
 refine aE 4 (aF cB rfl rfl rfl rfl rfl) ?_
 refine bY (.cons (cg ew cB rfl rfl) (.cons (bK rfl) .nil)) ?_
 refine aR ?_
 have he : dR fr.length pg pa w kind = 0 := by unfold dR; rw [if_pos ha, if_pos (by omega), if_pos hz, if_pos (by omega)]
 simp [bz, my, he]
theorem xq {n : Nat} {pg : List Pl} {pa : Nat} {w kind : Int} (h : dR n pg pa w kind = 0) : pa < 768 ∧ (cm pg ((pa / 64 : Nat) : Int)).1 < n ∧ my n pg pa w kind = [.int .i64 (pa / 64 : Nat), .int .i64 (cm pg ((pa / 64 : Nat) : Int)).1, .int .i64 (pa % 64 : Nat), .bool false] := by
 refine ⟨?_, ?_, by rw [my, if_pos h]⟩
 ·unfold dR at h; split at h
  ·split at h
   ·assumption
   omega
  omega
 unfold dR at h; split at h
 ·split at h
  ·split at h
   ·split at h
    ·assumption
    omega
   contradiction
  omega
 omega
def jX (fr : List aC) (pg : List Pl) (pa : Nat) (w : Int) (x : Nat) : List aC := if dR fr.length pg pa w 2 = 0 then eK fr (cm pg ((pa / 64 : Nat) : Int)).1 ((pa % 64 : Nat) : Int) w x else fr
def qY (fr : List aC) (pg : List Pl) (pa : Nat) (w : Int) (d : Nat) : Nat := if dR fr.length pg pa w 2 = 0 then d ||| 2 ^ (pa / 64) else d
theorem PH {n : Nat} (h : n < 12) : ig .u32 1 (n : Int) = ((2 ^ n : Nat) : Int) := by
 have : ∀ n : Nat, n < 12 → ig .u32 1 (n : Int) = ((2 ^ n : Nat) : Int) := by decide
 exact this n h
theorem AE {n : Nat} (h : n < 12) : 2 ^ n < 4096 := by
 have : ∀ n : Nat, n < 12 → 2 ^ n < 4096 := by decide
 exact this n h
theorem EG (pv ps pm d : Nat) (fr : List aC) (pg : List Pl) (h : Pgs pg) (hF : cH fr) (hd : d < 4096) (pa : Nat) (hpa : pa < 4294967296) (w : Int) (x : Nat) (hx : x < 4294967296) : sQ W0 21 [.pointer (some ⟨pv, 0, none⟩), .int .u32 pa, .int .i64 w, .int .u32 x] (pt pv (cr ps pm d) :: bu ps fr :: pt pm (bJ pg) :: R) (.int .i64 (dR fr.length pg pa w 2)) (pt pv (cr ps pm (qY fr pg pa w d)) :: bu ps (jX fr pg pa w x) :: pt pm (bJ pg) :: R) := by
 by_cases hz : dR fr.length pg pa w 2 = 0
 ·obtain ⟨h1, h2, hv⟩ := xq hz
  have hp := AE (n := pa / 64) (by omega)
  rw [qY, if_pos hz, jX, if_pos hz]
  refine ai 10 func21 ntmps21 ?_
  refine aM (du CN rfl (xp pv ps pm d fr pg h pa hpa w 2)) ?_
  rw [hv, hz]
  refine au 3 ?_
  refine ax (aS ez) fun b1 => ?_
  refine aE 10 (aF cB rfl rfl rfl rfl rfl) ?_
  refine a8 rfl (fun c2 => ?_) fun c2 => ?_
  ·exact absurd rfl c2
  refine au 3 ?_
  refine aU [(pv, 0, _), (b1, 0, _)] 11 aT rfl (aa (aa ag)) (fun hS => ?_)
  refine ah 0 10 hS ?_
  refine bF 10 rfl rfl (ao JB rfl (Az ps fr _ _ w x hx hF)) (aa (aa ag)) fun hS => ?_
  refine aK ?_
  refine au 2 ?_
  refine aU [(b1, 0, _)] 11 aT rfl (aa ag) (fun hS => ?_)
  refine ah 0 3 hS ?_
  refine ah 4 2 hS ?_
  refine av 6 rfl rfl rfl hS (n0 rfl rfl (by omega) (PH (by omega))) ?_
  refine bF 3 rfl rfl (dC (aA ia rfl (aN rfl))) (aa ag) fun hS => ?_
  refine av 7 rfl rfl rfl hS (nY rfl rfl (uK (by omega) (by omega))) ?_
  refine ah 8 2 hS ?_
  refine bU 10 rfl rfl (bA bE rfl rfl rfl (Nat.le_of_ble_eq_true rfl) SetL.eq) (aa ag) fun hS => ?_
  refine aK ?_
  refine au 7 ?_
  exact ae aL
 rw [qY, if_neg hz, jX, if_neg hz]
 refine ai 10 func21 ntmps21 ?_
 refine aM (du CN rfl (xp pv ps pm d fr pg h pa hpa w 2)) ?_
 rw [my, if_neg hz]
 refine au 3 ?_
 refine ax (aS ez) fun b1 => ?_
 refine aE 10 (aF cB rfl rfl rfl rfl rfl) ?_
 refine a8 rfl (fun c2 => ?_) fun c2 => ?_
 ·refine au 8 ?_
  exact ae aL
 exact absurd hz c2
theorem PI (ps pm : Nat) (fr : List aC) (pg : List Pl) (h : Pgs pg) (h0 : 0 < fr.length) : sP W0 101 [.pointer (some ⟨ps, 0, none⟩), .pointer (some ⟨pm, 0, none⟩)] (bu ps fr :: pt pm (bJ pg) :: R) (fun v B => ∃ b, v = .tuple #[.pointer (some ⟨b, 0, none⟩), .int .i64 0] ∧ B = pt b (cr ps pm 0) :: bu ps fr :: pt pm (bJ pg) :: R) := by
 refine ai 10 func101 ntmps101 ?_
 refine ar 2 (ao uh rfl (qU ps fr)) ?_
 refine bB rfl rfl rfl (fun g1_4 => ?_) fun g1_4 => ?_
 ·omega
 refine au 2 ?_
 refine ar 5 (ao CO rfl (Py pm pg h)) ?_
 refine a8 rfl (fun c1 => ?_) fun c1 => ?_
 ·exact absurd c1 (by decide)
 refine au 6 ?_
 refine a7 rfl (bq ZE zeroValue139 (am zj (am IW (am bE bj))) (aI rfl zj rfl rfl (Nat.le_of_ble_eq_true rfl) SetL.eq (aI rfl IW rfl rfl (Nat.le_of_ble_eq_true rfl) SetL.eq bi))) ?_
 refine ax (aV rfl) fun b1 => ?_
 refine au 5 ?_
 refine aJ ?_
 exact ⟨_, ⟨b1, rfl, rfl⟩, inferInstance⟩
theorem pK (pv ps pm d : Nat) : sQ W0 46 [.pointer (some ⟨pv, 0, none⟩)] (pt pv (cr ps pm d) :: R) (.pointer (some ⟨pm, 0, none⟩)) (pt pv (cr ps pm d) :: R) := by
 refine ai 9 func46 ntmps46 ?_
 refine ar 2 (ao zt rfl (uS pv ps pm d)) ?_
 refine a8 rfl (fun c1 => ?_) fun c1 => ?_
 ·exact absurd c1 (by decide)
 refine au 12 ?_
 exact ae aL
theorem AF (pv ps pm d : Nat) : sQ W0 55 [.pointer (some ⟨pv, 0, none⟩)] (pt pv (cr ps pm d) :: R) (.pointer (some ⟨ps, 0, none⟩)) (pt pv (cr ps pm d) :: R) := by
 refine ai 9 func55 ntmps55 ?_
 refine ar 2 (ao zt rfl (uS pv ps pm d)) ?_
 refine a8 rfl (fun c1 => ?_) fun c1 => ?_
 ·exact absurd c1 (by decide)
 refine au 12 ?_
 exact ae aL
def m4 (len : Nat) (pg : List Pl) (n : Int) : Bool := aP pg n && decide (n < 8) && decide ((cm pg n).1 < len)
theorem EH (pv ps pm d : Nat) (fr : List aC) (pg : List Pl) (h : Pgs pg) (n : Int) : sQ W0 447 [.pointer (some ⟨pv, 0, none⟩), .int .i64 n] (pt pv (cr ps pm d) :: bu ps fr :: pt pm (bJ pg) :: R) (.tuple #[.int .i64 (cm pg n).1, .bool (m4 fr.length pg n)]) (pt pv (cr ps pm d) :: bu ps fr :: pt pm (bJ pg) :: R) := by
 refine ai 13 func447 ntmps447 ?_
 refine ar 3 (ao ug rfl (qW pm pg h n)) ?_
 refine ax (aS jh) fun b1 => ?_
 refine aE 4 (aF fm rfl rfl rfl rfl rfl) ?_
 refine aU [(pv, 0, _), (b1, 0, _)] 19 aT rfl (aa (aa ag)) (fun hS => ?_)
 refine ah 0 4 hS ?_
 refine ip (t := 20) rfl ?_ ?_
 ·intro g2_4
  refine ah 4 4 hS ?_
  refine ip (t := 24) rfl ?_ ?_
  ·intro g2_8
   refine ah 8 6 hS ?_
   refine bF 14 rfl rfl (ao uh rfl (qU ps fr)) (aa (aa ag)) fun hS => ?_
   refine ah 15 4 hS ?_
   refine aK ?_
   refine au 2 ?_
   refine aJ ?_
   refine aR ?_
   simp_all [bz, m4]; try omega
  intro g2_8
  refine ah 8 11 hS ?_
  refine aK ?_
  refine au 2 ?_
  refine aJ ?_
  refine aR ?_
  simp_all [bz, m4]; try omega
 intro g2_4
 refine ah 4 15 hS ?_
 refine aK ?_
 refine au 2 ?_
 refine aJ ?_
 refine aR ?_
 simp_all [bz, m4]; try omega
def eX (p : Value × aC) : HP := osl 5 1 p.1 (bW p.2)
def dN (qs : Nat) (fr : List aC) : HP := chk (fun C => ∃ a c, ∃ vs : List Value, vs.length = fr.length ∧ C = pt qs (ac [.slice a fr.length c] 195) :: osl 196 1 (.slice a fr.length c) vs :: (vs.zip fr).map eX)
section
variable {P : Program} {W0 : World} {N : FSz} {K : Act → World → Prop} {e : aW} {A B R R1 R2 : List HP} {qs g n : Nat} {fr : List aC} {f : FuncId} {args : List Value} {Post : Value → List HP → Prop} {l : List Value}
theorem sV [hk : Tk dN qs A fr R] (h : ∀ a c vs, vs.length = fr.length → az W0 N K e (pt qs (ac [.slice a fr.length c] 195) :: osl 196 1 (.slice a fr.length c) vs :: ((vs.zip fr).map eX ++ R))) : az W0 N K e A :=
 fK (r := dN) (b := qs) (mt fun C hC => by obtain ⟨a, c, vs, h1, rfl⟩ := hC; exact h a c vs h1)
theorem qZ {a : Option Addr} {c : Nat} {vs : List Value} [h1 : Tk pt qs A (ac [.slice a n c] 195) R1] [h2 : Tk (osl 196 1) (.slice a n c) R1 vs ((vs.zip fr).map eX ++ R2)] (hv : vs.length = fr.length) (hn : n = fr.length) [k : Ent R2 B] : Ent A (dN qs fr :: B) := by
 subst hn
 have e1 : A.Perm ((pt qs (ac [.slice a fr.length c] 195) :: osl 196 1 (.slice a fr.length c) vs :: (vs.zip fr).map eX) ++ R2) := h1.perm.trans (h2.perm.cons _)
 have e2 : Ent ((pt qs (ac [.slice a fr.length c] 195) :: osl 196 1 (.slice a fr.length c) vs :: (vs.zip fr).map eX) ++ R2) (dN qs fr :: R2) := fC ⟨a, c, vs, hv, rfl⟩
 exact (Ent.ofPerm e1).trans (e2.trans (Ent.cons k))
theorem EI {α : Type} : ∀ (l : List α) (i : Nat) (h : i < l.length), l.Perm (l[i] :: l.eraseIdx i)
 | x :: l, 0, h => by simp
 | x :: l, i + 1, h => by
  simp only [List.getElem_cons_succ, List.eraseIdx_cons_succ]
  exact ((EI l i (by simpa using h)).cons x).trans (List.Perm.swap _ _ _)
theorem EJ {α : Type} : ∀ (l : List α) (i : Nat) (x : α) (h : i < l.length), (x :: l.eraseIdx i).Perm (l.set i x)
 | y :: l, 0, x, h => by simp
 | y :: l, i + 1, x, h => by
  simp only [List.set_cons_succ, List.eraseIdx_cons_succ]
  exact (List.Perm.swap _ _ _).trans ((EJ l i x (by simpa using h)).cons y)
theorem sW {E sz : Nat} {v : Value} {xs : List Value} [hk : Tk (osl E sz) v A xs R] (h0 : v = .slice none 0 0 → xs = [] → az W0 N K e R)
  (h1 : ∀ g n cap sp, v = .slice (some ⟨g, 0, none⟩) n cap → n ≤ cap → cap ≤ maxLen → xs.length = n * sz → (xs ++ sp).length = cap * sz → az W0 N K e (pt g (ac (xs ++ sp) E) :: R)) : az W0 N K e A :=
 fK (r := osl E sz) (b := v) (jW h0 h1)
theorem AG [hk : Tk dN qs A fr R] {i : Nat} (hi : i < fr.length) (h : ∀ a c vs vi, vs.length = fr.length → vs[i]? = some vi →
   az W0 N K e (pt qs (ac [.slice a fr.length c] 195) :: osl 196 1 (.slice a fr.length c) vs :: osl 5 1 vi (bW (fr.getD i [])) :: (((vs.zip fr).map eX).eraseIdx i ++ R))) : az W0 N K e A := by
 refine sV (qs := qs) fun a c vs hv => ?_
 have hlen : ((vs.zip fr).map eX).length = fr.length := by simp [hv]
 have hiv : i < vs.length := by omega
 have hg : ((vs.zip fr).map eX)[i]'(by omega) = osl 5 1 vs[i] (bW (fr.getD i [])) := by simp [eX, List.getD, hi]
 have hp := EI ((vs.zip fr).map eX) i (by omega)
 rw [hg] at hp
 exact mZ (((hp.append_right R).cons _).cons _) (h a c vs vs[i] hv (by simp [hiv]))
theorem PK {a : Option Addr} {c i : Nat} {vs : List Value} {vi : Value} {y : aC} {ys : List Value} {R3 : List HP} [h1 : Tk pt qs A (ac [.slice a n c] 195) R1] [h2 : Tk (osl 196 1) (.slice a n c) R1 (vs.set i vi) R2] [h3 : Tk (osl 5 1) vi R2 ys (((vs.zip fr).map eX).eraseIdx i ++ R3)]
  (hy : ys = bW y) (hv : vs.length = fr.length) (hn : n = fr.length) (hi : i < fr.length) [k : Ent R3 B] : Ent A (dN qs (fr.set i y) :: B) := by
 subst hy
 have e1 : A.Perm (pt qs (ac [.slice a n c] 195) :: osl 196 1 (.slice a n c) (vs.set i vi) :: ((((vs.set i vi).zip (fr.set i y)).map eX) ++ R3)) := by
  refine h1.perm.trans ((h2.perm.trans ((h3.perm.trans ?_).cons _)).cons _)
  have hs : ((vs.set i vi).zip (fr.set i y)).map eX = ((vs.zip fr).map eX).set i (eX (vi, y)) := by
   apply List.ext_getElem
   ·simp
   intro j h1 h2
   by_cases e : j = i
   ·subst e; simp
   have e' : ¬ i = j := fun h => e h.symm
   simp [List.getElem_set, e']
  rw [hs]
  have := EJ ((vs.zip fr).map eX) i (eX (vi, y)) (by simp [hv]; exact hi)
  exact this.append_right R3
 exact (Ent.ofPerm e1).trans (qZ (vs := vs.set i vi) (by simp [hv]) (by simp [hn]))
theorem AH {c i g2 n2 c2 : Nat} {vs vs' sp sp2 ys : List Value} {y : aC} {vi : Value} {R3 : List HP} [h1 : Tk pt qs A (ac [.slice (some ⟨g, 0, none⟩) n c] 195) R1] [h2 : Tk pt g R1 (ac (vs' ++ sp) 196) R2] [h3 : Tk pt g2 R2 (ac (ys ++ sp2) 5) R3]
  (hvs : vs' = vs.set i vi) (hvi : vi = .slice (some ⟨g2, 0, none⟩) n2 c2) (hy : ys = bW y) (hv : vs.length = fr.length) (hn : n = fr.length) (hi : i < fr.length) (a1 : n ≤ c) (a2 : c ≤ maxLen) (a3 : (vs' ++ sp).length = c * 1) (b1 : n2 ≤ c2) (b2 : c2 ≤ maxLen) (b3 : ys.length = n2 * 1) (b4 : (ys ++ sp2).length = c2 * 1) [k : Ent R3 (((vs.zip fr).map eX).eraseIdx i ++ B)] : Ent A (dN qs (fr.set i y) :: B) := by
 subst hvs
 subst hvi
 have e1 : A.Perm (pt qs (ac [.slice (some ⟨g, 0, none⟩) n c] 195) :: pt g (ac (vs.set i (.slice (some ⟨g2, 0, none⟩) n2 c2) ++ sp) 196) :: pt g2 (ac (ys ++ sp2) 5) :: R3) := h1.perm.trans ((h2.perm.trans (h3.perm.cons _)).cons _)
 have e2 : Ent (pt g2 (ac (ys ++ sp2) 5) :: R3) (osl 5 1 (.slice (some ⟨g2, 0, none⟩) n2 c2) ys :: (((vs.zip fr).map eX).eraseIdx i ++ B)) := eB b1 b2 b3 b4
 have e3 : Ent (pt g (ac (vs.set i (.slice (some ⟨g2, 0, none⟩) n2 c2) ++ sp) 196) :: osl 5 1 (.slice (some ⟨g2, 0, none⟩) n2 c2) ys :: (((vs.zip fr).map eX).eraseIdx i ++ B)) (osl 196 1 (.slice (some ⟨g, 0, none⟩) n c) (vs.set i (.slice (some ⟨g2, 0, none⟩) n2 c2)) :: osl 5 1 (.slice (some ⟨g2, 0, none⟩) n2 c2) ys :: (((vs.zip fr).map eX).eraseIdx i ++ B)) := eB a1 a2 (by simp [hv, hn]) a3
 exact (Ent.ofPerm e1).trans ((Ent.cons ((Ent.cons e2).trans e3)).trans (PK (vi := .slice (some ⟨g2, 0, none⟩) n2 c2) hy hv hn hi))
end
theorem PL {fr : List aC} {i : Nat} (hi : i < fr.length) : fr.set i (fr.getD i []) = fr := by
 rw [show fr.getD i [] = fr[i] by simp [List.getD, hi]]; exact List.set_getElem_self _
theorem PM {vs : List Value} {i : Nat} {v : Value} (h : vs[i]? = some v) : vs.set i v = vs := by
 have hi : i < vs.length := by
  rcases Nat.lt_or_ge i vs.length with k | k
  ·exact k
  rw [List.getElem?_eq_none k] at h; cases h
 have : vs[i] = v := by simpa [hi] using h
 rw [← this]; exact List.set_getElem_self _
theorem uT (qs : Nat) (fr : List aC) (f : Int) : sQ W0 95 [.pointer (some ⟨qs, 0, none⟩), .int .i64 f] (dN qs fr :: R) (.bool (dY fr.length f)) (dN qs fr :: R) := by
 refine ai 6 func95 ntmps95 ?_
 refine sV (qs := qs) fun a c vs hv => ?_
 refine au 4 ?_
 refine cp rfl rfl rfl (fun g1_3 => ?_) fun g1_3 => ?_
 ·refine au 18 ?_
  refine ae ?_
  refine ⟨_, ⟨congrArg Value.bool ?_, rfl⟩, qZ hv rfl⟩
  rw [Bool.eq_iff_iff]; simp only [dY, decide_eq_true_eq, Bool.false_eq_true, false_iff]; omega
 refine au 11 ?_
 refine ae ?_
 refine ⟨_, ⟨congrArg Value.bool ?_, rfl⟩, qZ hv rfl⟩
 rw [Bool.eq_iff_iff]; simp only [dY, decide_eq_true_eq, Bool.false_eq_true, false_iff]; omega
theorem PN {g off c n : Nat} {l : List Nat} {i k w : Nat} (hl : l.length = n) (hw : w < 4294967296) (hc : bG (aO W0 R) g off (bW l)) (hi : dV n i k = true) (hn : n ≤ 1000000) : sP W0 231 [.slice (some ⟨g, off, none⟩) n c, .int .i64 i, .int .i64 k, .int .u32 w] R (fun v B => ∃ a' c', v = xn a' n c' ∧ B = osl 5 1 (.slice a' n c') (bW (kv l i k w)) :: R) := by
 subst hl; exact Pn g off c l i k w hw hc hi hn
theorem PO {x : aC} {sp : List Value} (h : x.length = 64) : ((bW x ++ sp).drop 0).take 64 = bW x := by
 rw [List.drop_zero, List.take_left' (by rw [e9, h])]
theorem PP (qs : Nat) (fr : List aC) (f off w : Int) (x : Nat) (hx : x < 4294967296) (hF : cH fr) : sQ W0 159 [.pointer (some ⟨qs, 0, none⟩), .int .i64 f, .int .i64 off, .int .i64 w, .int .u32 x] (dN qs fr :: R) (.int .i64 (if jo fr f off w then 0 else 1)) (dN qs (eK fr f off w x) :: R) := by
 by_cases hf : dY fr.length f = true
 ·obtain ⟨i, rfl, hi⟩ := oo hf
  obtain ⟨hl, hb⟩ := hF.get hi
  by_cases hin : dV 64 off w = true
  ·obtain ⟨o, k, rfl, rfl, hk, hok⟩ := pH hin
   have hs : jo fr i o k = true := by simp [jo, hf, hin]
   have hpl : (kv (fr.getD i []) o k x).length = 64 := by rw [qR (by omega)]; exact hl
   refine ai 10 JC ntmps159 ?_
   refine ar 3 (ao zu rfl (uT qs fr i)) ?_
   refine a8 rfl (fun c1 => ?_) fun c1 => ?_
   ·exact absurd c1 (by simp [hf])
   refine au 3 ?_
   refine AG (qs := qs) hi fun a c vs vi hv hvi => ?_
   refine sW (E := 5) (sz := 1) (v := vi) (fun h1 h2 => by have := congrArg List.length h2; rw [e9, hl] at this; cases this) fun g2 n2 c2 sp2 k1 k2 k3 k4 k5 => ?_
   obtain rfl : n2 = 64 := by rw [e9, hl] at k4; omega
   subst k1
   refine sW (E := 196) (sz := 1) (v := .slice a fr.length c) (fun h1 h2 => by have := (Value.slice.inj h1).2.1; omega) fun g n c' sp h1 h2 h3 h4 h5 => ?_
   cases h1
   refine au 6 ?_
   refine a7 rfl (bc nV pp rfl rfl rfl hi (by first | exact Nat.zero_add _ | rfl)) ?_
   refine a7 rfl (aA IR rfl (aN (by rw [Nat.mul_one, List.getElem?_append_left (by omega)]; exact hvi))) ?_
   refine au 3 ?_
   refine aB rfl (aD call231 rfl (PN hl hx (cC (PO hl) (by rw [e9, hl])) hin (by decide))) ?_
   rintro _ B_ ⟨a', c', rfl, hB_⟩
   obtain rfl := hB_.symm
   refine sW (E := 5) (sz := 1) (v := .slice a' 64 c') (fun h1 h2 => by have := (Value.slice.inj h1).2.1; omega) fun g3 n3 c3 sp3 q1 q2 q3 q4 q5 => ?_
   cases q1
   refine a7 rfl (aH rfl) (a7 rfl (jj rfl rfl) (a7 rfl (jj rfl rfl) (a7 rfl (bR rfl) (a7 rfl (bR rfl) (au 5 ?_)))))
   refine a7 rfl (aH rfl) (a7 rfl (lY rfl rfl) (au 2 ?_))
   refine a8 rfl (fun c4 => ?_) fun c4 => ?_
   ·refine au 7 ?_
    refine a7 rfl (bc nV pp rfl rfl rfl hi (by first | exact Nat.zero_add _ | rfl)) ?_
    refine aE 9 (bA pp rfl rfl rfl (by rw [List.length_append]; omega) (by rw [Nat.mul_one, List.set_append_left _ _ (by omega)])) ?_
    refine ae ?_
    rw [show eK fr i o k x = fr.set i (kv (fr.getD i []) o k x) by simp [eK, hs]]
    exact ⟨_, ⟨by simp [bz, hs], rfl⟩, AH (vs := vs) (vi := .slice (some ⟨g3, 0, none⟩) 64 c') rfl rfl rfl hv rfl hi h2 h3 (by rw [← h5]; simp) q2 q3 q4 q5⟩
   exact absurd rfl c4
  have hin' : dV 64 off w = false := by simpa using hin
  have hs : jo fr i off w = false := by simp [jo, hin']
  refine ai 10 JC ntmps159 ?_
  refine ar 3 (ao zu rfl (uT qs fr i)) ?_
  refine a8 rfl (fun c1 => ?_) fun c1 => ?_
  ·exact absurd c1 (by simp [hf])
  refine au 3 ?_
  refine AG (qs := qs) hi fun a c vs vi hv hvi => ?_
  refine sW (E := 5) (sz := 1) (v := vi) (fun h1 h2 => by have := congrArg List.length h2; rw [e9, hl] at this; cases this) fun g2 n2 c2 sp2 k1 k2 k3 k4 k5 => ?_
  obtain rfl : n2 = 64 := by rw [e9, hl] at k4; omega
  subst k1
  refine sW (E := 196) (sz := 1) (v := .slice a fr.length c) (fun h1 h2 => by have := (Value.slice.inj h1).2.1; omega) fun g n c' sp h1 h2 h3 h4 h5 => ?_
  cases h1
  refine au 6 ?_
  refine a7 rfl (bc nV pp rfl rfl rfl hi (by first | exact Nat.zero_add _ | rfl)) ?_
  refine a7 rfl (aA IR rfl (aN (by rw [Nat.mul_one, List.getElem?_append_left (by omega)]; exact hvi))) ?_
  refine au 3 ?_
  refine aB rfl (aD call231 rfl (Pp _ 64 c2 off w x hin' (by decide))) ?_
  rintro _ B_ ⟨rfl, hB_⟩
  obtain rfl := hB_.symm
  refine a7 rfl (aH rfl) (a7 rfl (jj rfl rfl) (a7 rfl (jj rfl rfl) (a7 rfl (bR rfl) (a7 rfl (bR rfl) (au 5 ?_)))))
  refine a7 rfl (aH rfl) (a7 rfl (lY rfl rfl) (au 2 ?_))
  refine a8 rfl (fun c4 => ?_) fun c4 => ?_
  ·exact absurd c4 (by decide)
  refine au 9 ?_
  refine ae ?_
  rw [show eK fr i off w x = fr by simp [eK, hs]]
  refine ⟨_, ⟨by simp [bz, hs], rfl⟩, ?_⟩
  have e := PL hi
  conv => rhs; rw [← e]
  exact AH (vs := vs) (PM hvi).symm rfl rfl hv rfl hi h2 h3 h5 k2 k3 k4 k5
 have hf' : dY fr.length f = false := by simpa using hf
 have hs : jo fr f off w = false := by simp [jo, hf']
 refine ai 10 JC ntmps159 ?_
 refine ar 3 (ao zu rfl (uT qs fr f)) ?_
 refine a8 rfl (fun c1 => ?_) fun c1 => ?_
 ·refine au 7 ?_
  refine ae ?_
  rw [show eK fr f off w x = fr by simp [eK, hs]]
  exact ⟨_, ⟨by simp [bz, hs], rfl⟩, inferInstance⟩
 exact absurd c1 (by simp [hf'])
theorem AI {A B R1 R2 R3 : List HP} {qs n c g2 : Nat} {a : Option Addr} {vs ys : List Value} {vi : Value} {fr : List aC} {y : aC} [h1 : Tk pt qs A (ac [.slice a n c] 195) R1] [h2 : Tk (osl 196 1) (.slice a n c) R1 (vs ++ [vi]) R2] [h3 : Tk pt g2 R2 (ac ys 5) R3]
  (hvi : vi = .slice (some ⟨g2, 0, none⟩) 64 64) (hy : ys = bW y) (hl : y.length = 64) (hv : vs.length = fr.length) (hn : n = fr.length + 1) [k : Ent R3 ((vs.zip fr).map eX ++ B)] : Ent A (dN qs (fr ++ [y]) :: B) := by
 subst hvi; subst hy
 have e1 : A.Perm (pt qs (ac [.slice a n c] 195) :: osl 196 1 (.slice a n c) (vs ++ [.slice (some ⟨g2, 0, none⟩) 64 64]) :: pt g2 (ac (bW y ++ []) 5) :: R3) := by
  rw [List.append_nil]; exact h1.perm.trans ((h2.perm.trans (h3.perm.cons _)).cons _)
 have e2 : Ent (pt g2 (ac (bW y ++ []) 5) :: R3) (osl 5 1 (.slice (some ⟨g2, 0, none⟩) 64 64) (bW y) :: ((vs.zip fr).map eX ++ B)) := eB (Nat.le_refl _) (by simp only [maxLen]; omega) (by rw [e9, hl]) (by rw [List.append_nil, e9, hl])
 have e3 : ((vs ++ [Value.slice (some ⟨g2, 0, none⟩) 64 64]).zip (fr ++ [y])).map eX = (vs.zip fr).map eX ++ [osl 5 1 (.slice (some ⟨g2, 0, none⟩) 64 64) (bW y)] := by
  rw [List.zip_append hv, List.map_append]; rfl
 have e4 : (osl 5 1 (.slice (some ⟨g2, 0, none⟩) 64 64) (bW y) :: ((vs.zip fr).map eX ++ B)).Perm (((vs ++ [Value.slice (some ⟨g2, 0, none⟩) 64 64]).zip (fr ++ [y])).map eX ++ B) := by
  rw [e3, List.append_assoc]; exact List.perm_middle.symm
 exact (Ent.ofPerm e1).trans ((Ent.cons (Ent.cons (e2.trans (Ent.ofPerm e4)))).trans (qZ (vs := vs ++ [.slice (some ⟨g2, 0, none⟩) 64 64]) (by simp [hv]) (by simp [hn])))
theorem PQ (n : Nat) (h : n ≤ 32) : sP W0 31 [.int .i64 n] R (fun v B => ∃ b, v = .tuple #[.pointer (some ⟨b, 0, none⟩), .int .i64 0] ∧ B = dN b (List.replicate n cI) :: R) := by
 refine ai 12 func31 ntmps31 ?_
 refine bB rfl rfl rfl (fun g1_3 => ?_) fun g1_3 => ?_
 ·omega
 refine au 6 ?_
 refine a8 rfl (fun c1 => ?_) fun c1 => ?_
 ·omega
 refine au 4 ?_
 refine a7 rfl (bq ZK zeroValue195 (am zi bj) bi) ?_
 refine ax (aV rfl) fun b1 => ?_
 refine au 10 ?_
 refine ge (fun i : Nat => i ≤ n) (fun i => [(0, .int .i64 n), (4, .pointer (some ⟨b1, 0, none⟩)), (5, .int .i64 i)]) (fun i => dN b1 (List.replicate i cI) :: R) (fun i => n - i) 0 ?_ ?_ ?_ ?_
 ·exact Nat.zero_le _
 ·repeat (first | exact dy | refine db rfl ?_)
 ·exact (Ent.cons (fR (B := R))).trans (fC (R := R) (C := [_, _]) ⟨none, 0, [], rfl, rfl⟩)
 intro i hi
 refine au 8 ?_
 refine a8 rfl (fun c5 => ?_) fun c5 => ?_
 ·refine au 4 ?_
  refine sV (qs := b1) fun a c vs hv => ?_
  rw [List.length_replicate] at hv ⊢
  refine aU [] 11 aT rfl ag (fun hS => ?_)
  refine ah 0 4 hS ?_
  refine eJ (is := [4, 5]) (by kernel_rfl) rfl ⟨?_, ?_, trivial⟩
  ·skip
   refine cV rfl rfl (dC (aA Cz rfl (aN rfl))) rfl ?_; clear hS
   rintro _ _ ⟨rfl, rfl⟩
   refine ⟨ag, fun hS => ?_⟩
   refine bS 5 (by kernel_rfl) rfl rfl (sG (sz := 1) (by_ := 1) (info := Tryz.t5) jQ (by kernel_rfl) rfl rfl rfl rfl (by decide) rfl rfl rfl rfl (by decide) (by decide)) rfl ?_; clear hS
   rintro _ _ ⟨b2, rfl, rfl⟩
   refine ⟨ag, fun hS => ?_⟩
   refine bS 6 (by kernel_rfl) rfl rfl (jT nV pp CP rfl rfl rfl rfl rfl (by decide) (by decide)) rfl ?_; clear hS
   rintro _ _ ⟨b3, rfl, rfl⟩
   refine ⟨ag, fun hS => ?_⟩
   refine bS 7 (by kernel_rfl) rfl rfl (eV (sz := 1) (by_ := 24) (info := Tryz.t196) nV (by kernel_rfl) rfl rfl rfl rfl (by decide) rfl rfl eC rfl rfl (by simp only [maxLen]; omega) (by omega)) rfl ?_; clear hS
   rintro _ B_ ⟨a1, c1, rfl, hB_⟩
   obtain rfl := hB_.symm
   refine ⟨ag, fun hS => ?_⟩
   refine ah 8 2 hS ?_
   refine bU 10 rfl rfl (bA zi rfl rfl rfl (Nat.le_of_ble_eq_true rfl) SetL.eq) ag fun hS => ?_
   refine aK ?_
   refine au 4 ?_
   refine ap 3 (cM rfl rfl) ?_
   refine bZ (i + 1) ?_ (he := ?_)
   ·omega
   rw [show List.replicate (i + 1) cI = List.replicate i cI ++ [cI] from List.replicate_succ']; exact AI (vs := vs) (n := i + 1) (a := a1) (c := c1) (g2 := b2) (ys := List.replicate (64 * 1) (.int .u8 0)) (y := cI) (vi := .slice (some ⟨b2, 0, none⟩) 64 64) (fr := List.replicate i cI) rfl rfl (by simp [cI]) (by simp [hv]) (by simp)
  skip
  refine cV rfl rfl (sG (sz := 1) (by_ := 1) (info := Tryz.t5) jQ (by kernel_rfl) rfl rfl rfl rfl (by decide) rfl rfl rfl rfl (by decide) (by decide)) rfl ?_; clear hS
  rintro _ _ ⟨b2, rfl, rfl⟩
  refine ⟨ag, fun hS => ?_⟩
  refine eJ (is := [4, 6]) (by kernel_rfl) rfl ⟨?_, ?_, trivial⟩
  ·skip
   refine cV rfl rfl (dC (aA Cz rfl (aN rfl))) rfl ?_; clear hS
   rintro _ _ ⟨rfl, rfl⟩
   refine ⟨ag, fun hS => ?_⟩
   refine bS 6 (by kernel_rfl) rfl rfl (jT nV pp CP rfl rfl rfl rfl rfl (by decide) (by decide)) rfl ?_; clear hS
   rintro _ _ ⟨b3, rfl, rfl⟩
   refine ⟨ag, fun hS => ?_⟩
   refine bS 7 (by kernel_rfl) rfl rfl (eV (sz := 1) (by_ := 24) (info := Tryz.t196) nV (by kernel_rfl) rfl rfl rfl rfl (by decide) rfl rfl eC rfl rfl (by simp only [maxLen]; omega) (by omega)) rfl ?_; clear hS
   rintro _ B_ ⟨a1, c1, rfl, hB_⟩
   obtain rfl := hB_.symm
   refine ⟨ag, fun hS => ?_⟩
   refine ah 8 2 hS ?_
   refine bU 10 rfl rfl (bA zi rfl rfl rfl (Nat.le_of_ble_eq_true rfl) SetL.eq) ag fun hS => ?_
   refine aK ?_
   refine au 4 ?_
   refine ap 3 (cM rfl rfl) ?_
   refine bZ (i + 1) ?_ (he := ?_)
   ·omega
   rw [show List.replicate (i + 1) cI = List.replicate i cI ++ [cI] from List.replicate_succ']; exact AI (vs := vs) (n := i + 1) (a := a1) (c := c1) (g2 := b2) (ys := List.replicate (64 * 1) (.int .u8 0)) (y := cI) (vi := .slice (some ⟨b2, 0, none⟩) 64 64) (fr := List.replicate i cI) rfl rfl (by simp [cI]) (by simp [hv]) (by simp)
  skip
  refine cV rfl rfl (jT nV pp CP rfl rfl rfl rfl rfl (by decide) (by decide)) rfl ?_; clear hS
  rintro _ _ ⟨b3, rfl, rfl⟩
  refine ⟨ag, fun hS => ?_⟩
  refine bF 4 rfl rfl (dC (aA Cz rfl (aN rfl))) ag fun hS => ?_
  refine bS 7 (by kernel_rfl) rfl rfl (eV (sz := 1) (by_ := 24) (info := Tryz.t196) nV (by kernel_rfl) rfl rfl rfl rfl (by decide) rfl rfl eC rfl rfl (by simp only [maxLen]; omega) (by omega)) rfl ?_; clear hS
  rintro _ B_ ⟨a1, c1, rfl, hB_⟩
  obtain rfl := hB_.symm
  refine ⟨ag, fun hS => ?_⟩
  refine ah 8 2 hS ?_
  refine bU 10 rfl rfl (bA zi rfl rfl rfl (Nat.le_of_ble_eq_true rfl) SetL.eq) ag fun hS => ?_
  refine aK ?_
  refine au 4 ?_
  refine ap 3 (cM rfl rfl) ?_
  refine bZ (i + 1) ?_ (he := ?_)
  ·omega
  rw [show List.replicate (i + 1) cI = List.replicate i cI ++ [cI] from List.replicate_succ']; exact AI (vs := vs) (n := i + 1) (a := a1) (c := c1) (g2 := b2) (ys := List.replicate (64 * 1) (.int .u8 0)) (y := cI) (vi := .slice (some ⟨b2, 0, none⟩) 64 64) (fr := List.replicate i cI) rfl rfl (by simp [cI]) (by simp [hv]) (by simp)
 refine au 13 ?_
 refine aJ ?_
 have : i = n := by omega
 subst this
 exact ⟨_, ⟨b1, rfl, rfl⟩, inferInstance⟩
def kX (p : Pl) : Value := .bool (decide (p ≠ (0, 0)))
abbrev jE (pg : List Pl) : Obj := ac (pg.map kX ++ pg.flatMap fT) 222
theorem EK {pg : List Pl} {sp : List Value} {i : Nat} (hi : i < pg.length) : ((pg.map kX ++ sp).drop (i * 1)).take 1 = [kX (eL pg i)] := by
 rw [Nat.mul_one, List.drop_append_of_le_length (by simp; omega), ← List.map_drop, List.drop_eq_getElem_cons hi, List.map_cons, List.cons_append, List.take_succ_cons, List.take_zero]
 simp [eL, List.getD, hi]
theorem PR {pg : List Pl} {i : Nat} (h : pg.length = 12) (hi : i < 12) : ((pg.map kX ++ pg.flatMap fT).drop (12 + i * 2)).take 2 = fT (eL pg i) := by
 rw [← List.drop_drop, List.drop_left' (by simpa using h)]
 have := AA (pg := pg) (sp := []) (n := i) (by omega)
 rwa [List.append_nil] at this
theorem EL : ∀ (vs a b : List Value) (off : Nat), setR (a ++ b) (a.length + off) vs = a ++ setR b off vs
 | [], a, b, off => rfl
 | v :: vs, a, b, off => by
  rw [setR, setR, List.set_append_right _ _ (by omega), show a.length + off - a.length = off by omega, show a.length + off + 1 = a.length + (off + 1) by omega, EL vs]
theorem PS {pg : List Pl} {i : Nat} {p : Pl} (h : pg.length = 12) (hi : i < 12) (hp : jp p = true) : setR ((pg.map kX ++ pg.flatMap fT).set (i * 1) (.bool true)) (12 + i * 2) (fT p) = (pg.set i p).map kX ++ (pg.set i p).flatMap fT := by
 have ht : kX p = .bool true := by
  have := pJ.1 hp
  simp only [kX, Value.bool.injEq, decide_eq_true_eq]
  intro e; rw [e] at this; simp at this
 rw [Nat.mul_one, List.set_append_left _ _ (by simp; omega), ← ht, ← List.map_set]
 have e := EL (fT p) ((pg.set i p).map kX) (pg.flatMap fT) (i * 2)
 rw [show ((pg.set i p).map kX).length = 12 by simp [h]] at e
 rw [e]
 have := AB (pg := pg) (sp := []) (n := i) (p := p) (by omega)
 rw [List.append_nil, List.append_nil] at this
 rw [this]
theorem EM (n : Int) : sQ W0 172 [.int .i64 n] R (.bool (gG n)) R := by
 refine ai 10 func172 ntmps172 ?_
 refine cp rfl rfl rfl (fun g1_3 => ?_) fun g1_3 => ?_
 ·refine au 8 ?_
  refine ae ?_
  refine aR ?_
  refine congrArg Value.bool ?_
  rw [Bool.eq_iff_iff]; simp only [gG, decide_eq_true_eq, Bool.false_eq_true, false_iff]; omega
 refine au 6 ?_
 refine ae ?_
 refine aR ?_
 refine congrArg Value.bool ?_
 rw [Bool.eq_iff_iff]; simp only [gG, decide_eq_true_eq, Bool.false_eq_true, false_iff]; omega
theorem AJ (b : Nat) (pg : List Pl) (h : Pgs pg) (n : Int) (p : Pl) : sQ W0 106 [.pointer (some ⟨b, 0, none⟩), .int .i64 n, .agg (fT p).toArray] (pt b (jE pg) :: R) (.int .i64 (ej pg n p)) (pt b (jE (dJ pg n p)) :: R) := by
 have hl := h.len
 refine ai 2 func106 ntmps106 ?_
 refine ax (aV rfl) fun b1 => ?_
 refine au 7 ?_
 refine ar 2 (aD call172 rfl (EM n)) ?_
 refine bB rfl rfl rfl (fun g1_4 => ?_) fun g1_4 => ?_
 ·refine au 28 ?_
  refine ae ?_
  have he : ej pg n p = 1 := by
   unfold ej; rw [if_neg]
   intro hk
   have := pJ.1 hk.2
   first
    | omega
    | (simp [hk.1] at g1_4)
  exact ⟨_, ⟨by simp [bz, he], by rw [dJ, he, if_neg (by decide)]⟩, inferInstance⟩
 refine au 7 ?_
 refine bB rfl rfl rfl (fun g1_9 => ?_) fun g1_9 => ?_
 ·refine au 23 ?_
  refine ae ?_
  have he : ej pg n p = 1 := by
   unfold ej; rw [if_neg]
   intro hk
   have := pJ.1 hk.2
   first
    | omega
    | (simp [hk.1] at g1_4)
  exact ⟨_, ⟨by simp [bz, he], by rw [dJ, he, if_neg (by decide)]⟩, inferInstance⟩
 refine au 7 ?_
 refine bB rfl rfl rfl (fun g1_14 => ?_) fun g1_14 => ?_
 ·refine au 18 ?_
  refine ae ?_
  have he : ej pg n p = 1 := by
   unfold ej; rw [if_neg]
   intro hk
   have := pJ.1 hk.2
   first
    | omega
    | (simp [hk.1] at g1_4)
  exact ⟨_, ⟨by simp [bz, he], by rw [dJ, he, if_neg (by decide)]⟩, inferInstance⟩
 refine au 7 ?_
 refine bB rfl rfl rfl (fun g1_19 => ?_) fun g1_19 => ?_
 ·refine au 13 ?_
  refine ae ?_
  have he : ej pg n p = 1 := by
   unfold ej; rw [if_neg]
   intro hk
   have := pJ.1 hk.2
   first
    | omega
    | (simp [hk.1] at g1_4)
  exact ⟨_, ⟨by simp [bz, he], by rw [dJ, he, if_neg (by decide)]⟩, inferInstance⟩
 refine au 8 ?_
 refine a8 rfl (fun c1 => ?_) fun c1 => ?_
 ·refine au 7 ?_
  refine ae ?_
  have he : ej pg n p = 1 := by
   unfold ej; rw [if_neg]
   intro hk
   have := pJ.1 hk.2
   first
    | omega
    | (simp [hk.1] at g1_4)
  exact ⟨_, ⟨by simp [bz, he], by rw [dJ, he, if_neg (by decide)]⟩, inferInstance⟩
 have hp : gG n = true := by simpa using g1_4
 have ho : jp p = true := pJ.2 (by omega)
 obtain ⟨i, hni, hi⟩ := jq hp
 have htr := EK (pg := pg) (sp := pg.flatMap fT) (i := i) (by omega)
 have hth : aP pg n = decide (eL pg i ≠ (0, 0)) := by rw [aP, hp]; simp [hni]
 refine au 9 ?_
 refine a7 rfl (dI JD bI rfl rfl hni hi (by first | exact Nat.zero_add _ | rfl)) ?_
 refine ap 2 (aA gz rfl (cC (vs := [kX (eL pg i)]) htr rfl 0 _ rfl)) ?_
 refine a8 rfl (fun c3 => ?_) fun c3 => ?_
 ·have ht : aP pg n = true := by rw [hth]; simpa using c3
  refine au 7 ?_
  refine ae ?_
  have he : ej pg n p = 5 := by unfold ej; rw [if_pos ⟨hp, ho⟩, if_pos ht]
  exact ⟨_, ⟨by simp [bz, he], by rw [dJ, he, if_neg (by decide)]⟩, inferInstance⟩
 have ht : aP pg n = false := by rw [hth]; simpa using c3
 have he : ej pg n p = 0 := by simp [ej, hp, ho, ht]
 refine au 8 ?_
 refine a7 rfl (dI JD bI rfl rfl hni hi (by first | exact Nat.zero_add _ | rfl)) ?_
 refine aE 3 (bA bI rfl rfl rfl (by rw [List.length_append, List.length_map, cz qV]; omega) rfl) ?_
 refine aU [(b1, 0, _)] 7 aT rfl (aa ag) (fun hS => ?_)
 refine ah 0 2 hS ?_
 refine av 2 rfl rfl rfl hS (b0 pd fm rfl (co (k := 0) rfl) rfl) ?_
 refine ah 3 2 hS ?_
 refine av 5 rfl rfl rfl hS (dI ww fm rfl rfl hni hi (by first | exact Nat.zero_add _ | rfl)) ?_
 refine bU 6 rfl rfl (ed fm rfl rfl rfl rfl (by rw [List.length_set, List.length_append, List.length_map, cz qV]; omega) (PS hl hi ho)) (aa ag) fun hS => ?_
 refine aK ?_
 refine au 7 ?_
 refine ae ?_
 rw [show dJ pg n p = pg.set i p by rw [dJ, if_pos he, hni, Int.toNat_natCast]]
 exact ⟨_, ⟨by simp [bz, he], rfl⟩, inferInstance⟩
theorem PT (b : Nat) (pg : List Pl) (h : Pgs pg) (n : Int) : sQ W0 86 [.pointer (some ⟨b, 0, none⟩), .int .i64 n] (pt b (jE pg) :: R) (.tuple #[.agg (fT (cm pg n)).toArray, .bool (aP pg n)]) (pt b (jE pg) :: R) := by
 have hl := h.len
 refine ai 2 func86 ntmps86 ?_
 refine ax (aS jh) fun b1 => ?_
 refine au 7 ?_
 refine ar 3 (aD call172 rfl (EM n)) ?_
 refine a8 rfl (fun c1 => ?_) fun c1 => ?_
 ·refine au 2 ?_
  refine a7 rfl (bq mX jh (am aj (am aj bj)) bi) ?_
  refine aE 5 (aF fm rfl rfl rfl rfl rfl) ?_
  refine bY (.cons (cg pd fm rfl rfl) (.cons (bK rfl) .nil)) ?_
  refine aR ?_
  have ht : aP pg n = false := by simp [aP, show gG n = false by simpa using c1]
  simp [bz, cm, ht]
 have hp : gG n = true := by simpa using c1
 obtain ⟨i, hni, hi⟩ := jq hp
 have htr := EK (pg := pg) (sp := pg.flatMap fT) (i := i) (by omega)
 have hpr := PR (pg := pg) hl hi
 refine au 3 ?_
 refine aU [(b, 12 + i * 2, fT (eL pg i)), (b, i * 1, [kX (eL pg i)])] 14 aT rfl (cR (cC hpr rfl) (cR (cC htr rfl) ag)) (fun hS => ?_)
 refine ah 0 4 hS ?_
 refine av 4 rfl rfl rfl hS (dI ww fm rfl rfl hni hi (by first | exact Nat.zero_add _ | rfl)) ?_
 refine av 5 rfl rfl rfl hS (b0 pd fm rfl (co (k := 0) rfl) rfl) ?_
 refine ah 6 4 hS ?_
 refine av 10 rfl rfl rfl hS (dI JD bI rfl rfl hni hi (by first | exact Nat.zero_add _ | rfl)) ?_
 refine av 11 rfl rfl rfl hS (aA gz rfl (A8 (k := 1) rfl)) ?_
 refine bU 12 rfl rfl (aF fm rfl rfl rfl rfl rfl) (cR (cC hpr rfl) (cR (cC htr rfl) ag)) fun hS => ?_
 refine ah 13 1 hS ?_
 refine aK ?_
 refine au 2 ?_
 refine bY (.cons (cg pd fm rfl rfl) (.cons (bK rfl) .nil)) ?_
 refine aR ?_
 subst hni
 by_cases hz : eL pg i = (0, 0)
 ·have ht : aP pg i = false := by simp [aP, hz]
  simp [bz, cm, ht, hz, kX]
 have ht : aP pg i = true := by simp [aP, hz, hp]
 simp [bz, cm, ht, hz, kX]
def PU (d : Nat) : List Value := (List.range 12).map (fun i => .bool (Nat.testBit d i))
abbrev sX (qs qm d : Nat) : Obj := ac (.pointer (some ⟨qs, 0, none⟩) :: .pointer (some ⟨qm, 0, none⟩) :: PU d) 192
def g5 (pa n at_ : Nat) : Nat := min (n - at_) (64 - (pa + at_) % 64)
theorem EN {pa n at_ : Nat} (h : at_ < n) : 0 < g5 pa n at_ ∧ at_ + g5 pa n at_ ≤ n := by unfold g5; omega
def AK (pa n at_ : Nat) : List Value := [.int .i64 ((pa + at_) / 64 : Nat), .int .i64 ((pa + at_) % 64 : Nat), .int .i64 (at_ : Nat), .int .i64 (g5 pa n at_ : Nat)]
theorem PV (W0 : World) (bn bp pa n L : Nat) (hpa : pa ≤ 100000) (hn : n ≤ 100000) (C : Nat → List HP) (I : Nat → Prop) (h0 : I 0) (Stop : List HP → Prop) (hr : ∀ at_ R, at_ < n → I at_ → nj Tryz.prog W0 L [.agg (AK pa n at_).toArray] (C at_ ++ R) (fun v B => ∃ b B', v = .bool b ∧ B = B' ++ R ∧ ((b = true ∧ I (at_ + g5 pa n at_) ∧ B' = C (at_ + g5 pa n at_)) ∨ (b = false ∧ Stop B')))) : sP W0 451 [.func (.yield L) #[] #[], .pointer (some ⟨bn, 0, none⟩), .pointer (some ⟨bp, 0, none⟩)] (pt bn (ac [.int .i64 n] 3) :: pt bp (ac [.int .i64 pa] 3) :: C 0) (fun v B => v = .tuple #[] ∧ ((I n ∧ B = C n) ∨ Stop B)) := by
 refine ai 6 func451 ntmps451 ?_
 refine cY (fun i : Nat => i ≤ n ∧ I i) (fun i => [(0, .func (.yield L) #[] #[]), (1, .pointer (some ⟨bn, 0, none⟩)), (2, .pointer (some ⟨bp, 0, none⟩)), (4, .int .i64 i)]) (fun i => pt bn (ac [.int .i64 n] 3) :: pt bp (ac [.int .i64 pa] 3) :: C i) (fun i => n - i) 0 ?_ ?_
 ·exact ⟨Nat.zero_le _, h0⟩
 intro i ⟨hi, hI⟩
 refine au 8 ?_
 refine a8 rfl (fun c1 => ?_) fun c1 => ?_
 ·refine au 4 ?_
  have hpos := EN (pa := pa) (n := n) (at_ := i) (by omega)
  refine au 3 ?_
  refine a7 rfl (bO rfl rfl (by rw [aG (by omega)]; omega : IntKind.wrap .i64 ((pa : Int) + (i : Int)) = ((pa + i : Nat) : Int))) ?_
  refine ap 2 (qE rfl rfl (by decide) ((congrArg (IntKind.wrap .i64) (uL (pa + i) 64)).trans (aG (by omega)))) ?_
  refine a7 rfl (bO rfl rfl (by rw [aG (by omega)]; omega : IntKind.wrap .i64 ((pa : Int) + (i : Int)) = ((pa + i : Nat) : Int))) ?_
  refine a7 rfl (ku rfl rfl (by decide) (oe (pa + i) 64)) ?_
  refine a7 rfl (aH rfl) (a7 rfl (bq rX CQ (am aj (am aj (am aj (am aj bj)))) (aI rfl aj rfl rfl (Nat.le_of_ble_eq_true rfl) SetL.eq (aI rfl aj rfl rfl (Nat.le_of_ble_eq_true rfl) SetL.eq (aI rfl aj rfl rfl (Nat.le_of_ble_eq_true rfl) SetL.eq bi)))) ?_)
  refine ax (aS CQ) fun b1 => ?_
  refine aE 6 (aF CR rfl rfl rfl rfl rfl) ?_
  refine ap 2 (cZ rfl rfl (by rw [aG (by omega)]; omega : IntKind.wrap .i64 ((n : Int) - (i : Int)) = ((n - i : Nat) : Int))) ?_
  refine a7 rfl (cZ rfl rfl (by rw [aG (by omega)]; omega : IntKind.wrap .i64 (64 - (((pa + i) % 64 : Nat) : Int)) = ((64 - (pa + i) % 64 : Nat) : Int))) ?_
  refine a7 rfl (qP rfl rfl (by unfold g5; split <;> omega : (if ((64 - (pa + i) % 64 : Nat) : Int) < ((n - i : Nat) : Int) then ((64 - (pa + i) % 64 : Nat) : Int) else ((n - i : Nat) : Int)) = ((g5 pa n i : Nat) : Int))) ?_
  refine a7 rfl (jV rX aj) ?_
  refine eI (bA aj rfl rfl rfl (Nat.le_of_ble_eq_true rfl) SetL.eq) ?_
  rintro _ _ rfl
  refine au 5 ?_
  refine a7 rfl (aH rfl) (a7 rfl (kS isAgg521 CR rfl rfl) ?_)
  refine Af rfl rfl rfl (Aj (List.perm_append_comm (l₁ := [_, _, _])) (hr i [_, _, _] (by omega) hI)) ?_
  rintro _ B_ ⟨b, B', rfl, hB_, hb⟩
  obtain rfl := hB_.symm
  refine mZ List.perm_append_comm ?_
  simp only [List.cons_append, List.nil_append]
  refine au 3 ?_
  refine a8 rfl (fun c4 => ?_) fun c4 => ?_
  ·have hs : Stop B' := by
    rcases hb with h | h
    ·exact absurd c4 (by rw [h.1]; decide)
    exact h.2
   refine au 5 ?_
   refine bT (.inl rfl) .nil ?_
   exact ⟨_, ⟨rfl, .inr hs⟩, inferInstance⟩
  have hs : I (i + g5 pa n i) ∧ B' = C (i + g5 pa n i) := by
   rcases hb with h | h
   ·exact h.2
   exact absurd (by rw [h.1]; decide) c4
  obtain ⟨hI', rfl⟩ := hs
  refine au 6 ?_
  refine ap 4 (bO rfl rfl (by rw [aG (by omega)]; omega : IntKind.wrap .i64 ((i : Int) + ((g5 pa n i : Nat) : Int)) = ((i + g5 pa n i : Nat) : Int))) ?_
  exact bZ (i + g5 pa n i) (⟨by omega, hI'⟩)
 refine au 4 ?_
 refine bT (.inr rfl) .nil ?_
 have : i = n := by omega
 subst this
 exact ⟨_, ⟨rfl, .inl ⟨hI, rfl⟩⟩, inferInstance⟩
theorem EO (pa n : Nat) : sP W0 446 [.int .i64 pa, .int .i64 n] R (fun v B => ∃ bn bp, v = .func (.func 451) #[] #[.pointer (some ⟨bn, 0, none⟩), .pointer (some ⟨bp, 0, none⟩)] ∧ B = pt bn (ac [.int .i64 n] 3) :: pt bp (ac [.int .i64 pa] 3) :: R) := by
 refine ai 2 func446 ntmps446 ?_
 refine ax (ik rfl rfl) fun b1 => ?_
 refine ax (ik rfl rfl) fun b2 => ?_
 refine au 5 ?_
 refine ap 4 (dM rfl rfl) ?_
 refine ae ?_
 exact ⟨_, ⟨b2, b1, rfl, rfl⟩, inferInstance⟩
theorem EP {W0 : World} {A : List HP} {e : aW} {n' L D bn bp : Nat} {ps : Array Tmp} {asg body : Code} {Go Stop : List HP → Prop} (pa n : Nat) (C : Nat → List HP) (I : Nat → Prop) (hpa : pa ≤ 100000) (hn : n ≤ 100000)
  (hp : A.Perm (pt bn (ac [.int .i64 n] 3) :: pt bp (ac [.int .i64 pa] 3) :: C 0)) (h0 : I 0) (hgo : I n → Go (C n))
  (hr : ∀ at_ R, at_ < n → I at_ → nj Tryz.prog W0 L [.agg (AK pa n at_).toArray] (df L ⟨e, n', ps, asg, body, .ready, none, D⟩ :: pt D (.deferred (some [])) :: (C at_ ++ R))
   (fun v B => (v = .bool true ∧ I (at_ + g5 pa n at_) ∧ B = df L ⟨e, n', ps, asg, body, .ready, none, D⟩ :: pt D (.deferred (some [])) :: (C (at_ + g5 pa n at_) ++ R)) ∨
    (v = .bool false ∧ ∃ B', Stop B' ∧ B = df L ⟨e, n', ps, asg, body, .done, some .ret, D⟩ :: pt D (.deferred (some [])) :: (B' ++ R)))) :
  bN Tryz.prog W0 451 (.func (.yield L) #[] #[] :: [.pointer (some ⟨bn, 0, none⟩), .pointer (some ⟨bp, 0, none⟩)]) (df L ⟨e, n', ps, asg, body, .ready, none, D⟩ :: pt D (.deferred (some [])) :: A)
   (fun _ B => (∃ C, B = df L ⟨e, n', ps, asg, body, .ready, none, D⟩ :: pt D (.deferred (some [])) :: C ∧ Go C) ∨ (∃ C, B = df L ⟨e, n', ps, asg, body, .done, some .ret, D⟩ :: pt D (.deferred (some [])) :: C ∧ Stop C)) := by
 have hperm : (df L ⟨e, n', ps, asg, body, .ready, none, D⟩ :: pt D (.deferred (some [])) :: A).Perm (pt bn (ac [.int .i64 n] 3) :: pt bp (ac [.int .i64 pa] 3) :: (df L ⟨e, n', ps, asg, body, .ready, none, D⟩ :: pt D (.deferred (some [])) :: C 0)) := by
  refine ((hp.cons _).cons _).trans ?_
  exact (((List.Perm.swap _ _ _).trans ((List.Perm.swap _ _ _).cons _)).cons _).trans ((List.Perm.swap _ _ _).trans ((List.Perm.swap _ _ _).cons _)) |>.trans (List.Perm.refl _)
 refine kU hperm (hJ (PV W0 bn bp pa n L hpa hn (fun i => df L ⟨e, n', ps, asg, body, .ready, none, D⟩ :: pt D (.deferred (some [])) :: C i) I h0
  (fun B => ∃ B', Stop B' ∧ B = df L ⟨e, n', ps, asg, body, .done, some .ret, D⟩ :: pt D (.deferred (some [])) :: B') fun at_ R hat hI w hO => ?_) ?_)
 ·obtain ⟨f, tmps, as_, bd, hy, hR⟩ := hr at_ R hat hI w hO
  refine ⟨f, tmps, as_, bd, hy, RoundIn.mono hR ?_⟩
  rintro _ w' ⟨v, B, rfl, hB, hO'⟩
  rcases hB with ⟨rfl, hI', rfl⟩ | ⟨rfl, B', hS, rfl⟩
  ·exact ⟨_, _, rfl, ⟨true, _, rfl, rfl, .inl ⟨rfl, hI', rfl⟩⟩, hO'⟩
  exact ⟨_, _, rfl, ⟨false, df L ⟨e, n', ps, asg, body, .done, some .ret, D⟩ :: pt D (.deferred (some [])) :: B', rfl, rfl, .inr ⟨rfl, B', hS, rfl⟩⟩, hO'⟩
 rintro v B ⟨_, ⟨hI, rfl⟩ | ⟨B', hS, rfl⟩⟩
 ·exact ⟨_, .inl ⟨_, rfl, hgo hI⟩, ent_refl⟩
 exact ⟨_, .inr ⟨_, rfl, hS⟩, ent_refl⟩
def mz (a : Nat) : Int := ((a / 64 : Nat) : Int)
def mB (len : Nat) (pg : List Pl) (pa n : Nat) : Prop := ∀ i, i < n → m4 len pg (mz (pa + i)) = true
instance {len : Nat} {pg : List Pl} {pa n : Nat} : Decidable (mB len pg pa n) := by unfold mB; exact Nat.decidableBallLT n _
def kz (len : Nat) (pg : List Pl) (pa : Nat) (n : Int) : Bool := decide (0 ≤ n ∧ pa ≤ 512 ∧ n ≤ 512 - (pa : Int)) && decide (mB len pg pa n.toNat)
theorem uU {len : Nat} {pg : List Pl} {pa : Nat} {n : Int} : kz len pg pa n = true ↔ (0 ≤ n ∧ pa ≤ 512 ∧ n ≤ 512 - (pa : Int)) ∧ mB len pg pa n.toNat := by simp [kz]
theorem xt {len : Nat} {pg : List Pl} {pa n : Nat} : kz len pg pa n = true ↔ pa + n ≤ 512 ∧ mB len pg pa n := by
 rw [uU]; simp only [Int.toNat_natCast]
 constructor
 ·rintro ⟨h1, h2⟩; exact ⟨by omega, h2⟩
 rintro ⟨h1, h2⟩; exact ⟨by omega, h2⟩
theorem PW {pa n at_ i : Nat} (h1 : at_ ≤ i) (h2 : i < at_ + g5 pa n at_) : (pa + i) / 64 = (pa + at_) / 64 := by unfold g5 at h2; omega
theorem EQ {pa n at_ k : Nat} (h2 : k < g5 pa n at_) : (pa + (at_ + k)) / 64 = (pa + at_) / 64 ∧ (pa + (at_ + k)) % 64 = (pa + at_) % 64 + k := by unfold g5 at h2; omega
theorem ER (W0 : World) (R : List HP) (pv ps pm d : Nat) (fr : List aC) (pg : List Pl) (h : Pgs pg) (pa : Nat) (hpa : pa < 4294967296) (n : Int) :
  bN Tryz.prog W0 438 [.pointer (some ⟨pv, 0, none⟩), .int .u32 pa, .int .i64 n] (pt pv (cr ps pm d) :: bu ps fr :: pt pm (bJ pg) :: R)
   (fun v B => v = .bool (kz fr.length pg pa n) ∧ B = pt pv (cr ps pm d) :: bu ps fr :: pt pm (bJ pg) :: R) := by
 refine gY func438 ntmps438 rfl rfl ?_
 refine bD (bQ (aB rfl (ik rfl rfl) ?_))
 rintro _ _ ⟨b1, rfl, rfl⟩
 refine aB rfl (o8 JE rfl) ?_
 rintro _ _ ⟨b2, rfl, rfl⟩
 refine bX (aY (bD (bD (bQ (a7 rfl (aA zf rfl (aN rfl)) ?_)))))
 refine aB rfl (ao zt rfl (uS pv ps pm d)) ?_
 rintro _ B_ ⟨rfl, hB_⟩
 obtain rfl := hB_.symm
 refine a7 rfl (aH rfl) ?_
 refine bB rfl rfl rfl (fun g1_3 => ?_) fun g1_3 => ?_
 ·exact absurd g1_3 (by decide)
 refine a7 rfl (aH rfl) (cP rfl rfl (a7 rfl (kR rfl rfl) (a7 rfl (iY rfl rfl) (a7 rfl (aH rfl) ?_))))
 refine bB rfl rfl rfl (fun g1_7 => ?_) fun g1_7 => ?_
 ·refine fI rfl rfl rfl rfl ?_
  refine a7 rfl (kP rfl rfl) (a7 rfl (aH rfl) (fI rfl rfl rfl rfl (fI rfl rfl rfl rfl (fI rfl rfl rfl rfl (fI rfl rfl rfl rfl (fI rfl rfl rfl rfl (a7 rfl (kP rfl rfl) (bX (aY (wZ rfl (bD (bQ (eI (bA bI rfl rfl rfl (Nat.le_of_ble_eq_true rfl) SetL.eq) ?_)))))))))))))
  rintro _ _ rfl
  refine bX (aY (gE (kO (bT (.inl rfl) (.cons (uz gz rfl (aN rfl)) .nil) ?_))))
  refine ⟨_, ⟨?_, rfl⟩, inferInstance⟩
  refine congrArg Value.bool (Eq.symm ?_)
  rw [← Bool.not_eq_true, uU]; omega
 refine a7 rfl (aH rfl) (cP rfl rfl (a7 rfl (nZ rfl rfl) (a7 rfl (iY rfl rfl) (a7 rfl (aH rfl) ?_))))
 refine bB rfl rfl rfl (fun g1_11 => ?_) fun g1_11 => ?_
 ·refine fI rfl rfl rfl rfl ?_
  refine fI rfl rfl rfl rfl (fI rfl rfl rfl rfl (fI rfl rfl rfl rfl (a7 rfl (kP rfl rfl) (bX (aY (wZ rfl (bD (bQ (eI (bA bI rfl rfl rfl (Nat.le_of_ble_eq_true rfl) SetL.eq) ?_)))))))))
  rintro _ _ rfl
  refine bX (aY (gE (kO (bT (.inl rfl) (.cons (uz gz rfl (aN rfl)) .nil) ?_))))
  refine ⟨_, ⟨?_, rfl⟩, inferInstance⟩
  refine congrArg Value.bool (Eq.symm ?_)
  rw [← Bool.not_eq_true, uU]; omega
 refine a7 rfl (aH rfl) (cP rfl rfl (a7 rfl (aH rfl) (cP rfl rfl ?_)))
 refine a7 rfl (cX dk cW rfl (by first | exact aG (by omega) | rfl)) ?_
 refine cP rfl rfl ?_
 refine a7 rfl (cZ rfl rfl (by first | exact aG (by omega) | rfl)) ?_
 refine cP rfl rfl (a7 rfl (nZ rfl rfl) (a7 rfl (iY rfl rfl) (bX (aY ?_))))
 refine a8 rfl (fun c1 => ?_) fun c1 => ?_
 ·refine bD ?_
  refine bQ (eI (bA bI rfl rfl rfl (Nat.le_of_ble_eq_true rfl) SetL.eq) ?_)
  rintro _ _ rfl
  refine bX (aY (gE (kO (bT (.inl rfl) (.cons (uz gz rfl (aN rfl)) .nil) ?_))))
  refine ⟨_, ⟨?_, rfl⟩, inferInstance⟩
  refine congrArg Value.bool (Eq.symm ?_)
  rw [← Bool.not_eq_true, uU]; omega
 refine iF (aY (bD (bD ?_)))
 obtain ⟨k, rfl⟩ : ∃ k : Nat, n = (k : Int) := ⟨n.toNat, by omega⟩
 have hk : pa + k ≤ 512 := by omega
 refine bQ (a7 rfl (aH rfl) ?_)
 refine a7 rfl (cX dk cW rfl (by first | exact aG (by omega) | rfl)) ?_
 refine a7 rfl (aH rfl) (aB rfl (aD call446 rfl (EO pa k)) ?_)
 rintro _ B_ ⟨bn, bp, rfl, hB_⟩
 obtain rfl := hB_.symm
 refine bX (aY (jS ?_))
 refine Ag (fun C => mB fr.length pg pa k ∧ C = pt pv (cr ps pm d) :: pt b2 (ac [.bool false] 4) :: pt b1 (ac [.pointer (some ⟨pv, 0, none⟩)] 52) :: bu ps fr :: pt pm (bJ pg) :: R) (fun C => ¬ mB fr.length pg pa k ∧ C = pt pv (cr ps pm d) :: pt b2 (ac [.bool false] 4) :: pt b1 (ac [.pointer (some ⟨pv, 0, none⟩)] 52) :: bu ps fr :: pt pm (bJ pg) :: R) rfl call451 ?_ ?_ ?_
 ·intro L D
  refine EP pa k (fun _ => pt pv (cr ps pm d) :: pt b2 (ac [.bool false] 4) :: pt b1 (ac [.pointer (some ⟨pv, 0, none⟩)] 52) :: bu ps fr :: pt pm (bJ pg) :: R) (fun i => mB fr.length pg pa i) (by omega) (by omega) xe (fun i hi => by omega) (fun hI => ⟨hI, rfl⟩) ?_
  intro at_ R' h1 h2
  simp only [List.cons_append, List.nil_append]
  refine xh rfl rfl ?_
  refine bQ (aB rfl (aS CQ) ?_)
  rintro _ _ ⟨b3, rfl, rfl⟩
  refine eI (aF CR rfl rfl rfl rfl rfl) ?_
  rintro _ _ rfl
  refine bX (xf rfl ?_)
  refine jS (bD (bQ (a7 rfl (aA zf rfl (aN rfl)) ?_)))
  refine a7 rfl (dp rfl rX rfl aj rfl (by first | exact Nat.zero_add _ | rfl)) ?_
  refine a7 rfl (aA aX rfl (aN rfl)) ?_
  refine aB rfl (du call447 rfl (EH pv ps pm d fr pg h (((pa + at_) / 64 : Nat) : Int))) ?_
  rintro _ B_ ⟨rfl, hB_⟩
  obtain rfl := hB_.symm
  refine a7 rfl (aH rfl) (a7 rfl (jj rfl rfl) (a7 rfl (jj rfl rfl) (a7 rfl (bR rfl) (a7 rfl (bR rfl) (bX (aY (bD (bQ (a7 rfl (aH rfl) (a7 rfl (lZ rfl) (bX (aY ?_))))))))))))
  refine a8 rfl (fun c6 => ?_) fun c6 => ?_
  ·refine bD ?_
   refine bQ (eI (bA bI rfl rfl rfl (Nat.le_of_ble_eq_true rfl) SetL.eq) ?_)
   rintro _ _ rfl
   refine bX (aY (gE (sd (OM ?_))))
   have hn : ¬ mB fr.length pg pa k := fun q => c6 (q at_ h1)
   refine ⟨_, .inr ⟨rfl, _, ⟨hn, rfl⟩, rfl⟩, ?_⟩
   simp only [List.cons_append]
   exact inferInstance
  refine iF (lX (xg ?_))
  have hb : m4 fr.length pg (mz (pa + at_)) = true := Decidable.not_not.1 c6
  have hI' : mB fr.length pg pa (at_ + g5 pa k at_) := fun i hi => by
   rcases Nat.lt_or_ge i at_ with q | q
   ·exact h2 i q
   rw [mz, PW q hi]; exact hb
  exact ⟨_, .inl ⟨rfl, hI', rfl⟩, inferInstance⟩
 ·intro D C hC
  obtain ⟨hown, rfl⟩ := hC
  refine lX (aY (bD (bQ (eI (bA bI rfl rfl rfl (Nat.le_of_ble_eq_true rfl) SetL.eq) ?_))))
  rintro _ _ rfl
  refine bX (aY (gE (sk (.inl rfl) (.cons (uz gz rfl (aN rfl)) .nil) ?_)))
  refine ⟨_, ⟨?_, rfl⟩, inferInstance⟩
  refine congrArg Value.bool (Eq.symm ?_)
  rw [xt]; exact ⟨hk, hown⟩
 intro D C hC
 obtain ⟨hown, rfl⟩ := hC
 refine sd (kO (sk (.inl rfl) (.cons (uz gz rfl (aN rfl)) .nil) ?_))
 refine ⟨_, ⟨?_, rfl⟩, inferInstance⟩
 refine congrArg Value.bool (Eq.symm ?_)
 rw [← Bool.not_eq_true, xt]; exact fun q => hown q.2
def oq (pg : List Pl) (a : Nat) : Int := (cm pg (mz a)).1
theorem PX (W0 : World) (R : List HP) (pv ps pm : Nat) (pg : List Pl) (h : Pgs pg) (pa n : Nat) (hpa : pa + n ≤ 512) (dd : Nat → Nat) (ff : Nat → List aC) (DH : Nat → HP) (gf : FuncId) (us : List Value)
  (hcall : ∀ args w, (callFunc gf args).run Tryz.prog w = .ok (.enter gf args) w)
  (hdo : ∀ i, i < n → ∀ R', Ent R' R → bN Tryz.prog W0 gf (.int .i64 (oq pg (pa + i)) :: .int .i64 ((pa + i) % 64 : Nat) :: .int .i64 (i : Nat) :: us) (pt pv (cr ps pm (dd i)) :: bu ps (ff i) :: pt pm (bJ pg) :: kH 0 (DH i) :: R')
   (fun v B => v = .tuple #[] ∧ B = pt pv (cr ps pm (dd (i + 1))) :: bu ps (ff (i + 1)) :: pt pm (bJ pg) :: kH 0 (DH (i + 1)) :: R')) :
  bN Tryz.prog W0 439 [.pointer (some ⟨pv, 0, none⟩), .int .u32 pa, .int .i64 n, .func (.func gf) #[] us.toArray] (pt pv (cr ps pm (dd 0)) :: bu ps (ff 0) :: pt pm (bJ pg) :: kH 0 (DH 0) :: R)
   (fun v B => v = .tuple #[] ∧ B = pt pv (cr ps pm (dd n)) :: bu ps (ff n) :: pt pm (bJ pg) :: kH 0 (DH n) :: R) := by
 refine gY func439 ntmps439 rfl rfl ?_
 refine bD (bQ (aB rfl (ik rfl rfl) ?_))
 rintro _ _ ⟨b1, rfl, rfl⟩
 refine aB rfl (ik rfl rfl) ?_
 rintro _ _ ⟨b2, rfl, rfl⟩
 refine bX (aY (bD (bQ (a7 rfl (aH rfl) ?_))))
 refine a7 rfl (cX dk cW rfl (by first | exact aG (by omega) | rfl)) ?_
 refine a7 rfl (aH rfl) (aB rfl (aD call446 rfl (EO pa n)) ?_)
 rintro _ B_ ⟨bn, bp, rfl, hB_⟩
 obtain rfl := hB_.symm
 refine bX (aY (jS ?_))
 refine Ag (fun C => C = pt b2 (ac [.func (.func gf) #[] us.toArray] 513) :: pt b1 (ac [.pointer (some ⟨pv, 0, none⟩)] 52) :: pt pv (cr ps pm (dd n)) :: bu ps (ff n) :: pt pm (bJ pg) :: kH 0 (DH n) :: R) (fun C => False) rfl call451 ?_ ?_ ?_
 ·intro L D
  refine EP pa n (fun i => pt b2 (ac [.func (.func gf) #[] us.toArray] 513) :: pt b1 (ac [.pointer (some ⟨pv, 0, none⟩)] 52) :: pt pv (cr ps pm (dd i)) :: bu ps (ff i) :: pt pm (bJ pg) :: kH 0 (DH i) :: R) (fun i => True) (by omega) (by omega) xe trivial (fun hI => rfl) ?_
  intro at_ R' h1 h2
  simp only [List.cons_append, List.nil_append]
  refine xh rfl rfl ?_
  refine bQ (aB rfl (aS CQ) ?_)
  rintro _ _ ⟨b3, rfl, rfl⟩
  refine eI (aF CR rfl rfl rfl rfl rfl) ?_
  rintro _ _ rfl
  refine bX (xf rfl ?_)
  refine jS (bD (bQ (a7 rfl (aA zf rfl (aN rfl)) ?_)))
  refine a7 rfl (dp rfl rX rfl aj rfl (by first | exact Nat.zero_add _ | rfl)) ?_
  refine a7 rfl (aA aX rfl (aN rfl)) ?_
  refine aB rfl (du call447 rfl (EH pv ps pm (dd at_) (ff at_) pg h (((pa + at_) / 64 : Nat) : Int))) ?_
  rintro _ B_ ⟨rfl, hB_⟩
  obtain rfl := hB_.symm
  have hpos := EN (pa := pa) (n := n) (at_ := at_) h1
  refine a7 rfl (aH rfl) (a7 rfl (jj rfl rfl) (a7 rfl (jj rfl rfl) (a7 rfl (bR rfl) (a7 rfl (bR rfl) (bX (aY (bD ?_)))))))
  refine fK (r := df) (b := L) (OQ fun HL hHL => ?_)
  refine bQ ?_
  refine a7 rfl (dp rfl rX rfl aj rfl (by first | exact Nat.zero_add _ | rfl)) ?_
  refine a7 rfl (aA aX rfl (aN rfl)) ?_
  refine a7 rfl (aH rfl) (bX (aY (jS ?_)))
  refine ge (fun i : Nat => i ≤ g5 pa n at_) (fun i => [(4, .pointer (some ⟨b1, 0, none⟩)), (7, .pointer (some ⟨b2, 0, none⟩)), (8, .pointer (some ⟨b3, 0, none⟩)), (9, .int .i64 (oq pg (pa + at_))), (25, .int .i64 (g5 pa n at_ : Nat)), (26, .int .i64 i)]) (fun i => kH 1 HL :: pt D (.deferred (some [])) :: pt b3 (ac (AK pa n at_) 521) :: pt b2 (ac [.func (.func gf) #[] us.toArray] 513) :: pt b1 (ac [.pointer (some ⟨pv, 0, none⟩)] 52) :: pt pv (cr ps pm (dd (at_ + i))) :: bu ps (ff (at_ + i)) :: pt pm (bJ pg) :: kH 0 (DH (at_ + i)) :: (R ++ R')) (fun i => g5 pa n at_ - i) 0 ?_ ?_ ?_ ?_
  ·exact Nat.zero_le _
  ·repeat (first | exact dy | refine db rfl ?_)
  ·simp only [Nat.add_zero]; exact inferInstance
  intro i hi
  refine bD (bQ (a7 rfl (kR rfl rfl) (bX (aY (bD ?_)))))
  refine a8 rfl (fun c5 => ?_) fun c5 => ?_
  ·refine iF ?_
   refine aY (bD (jS (bD (bQ (a7 rfl (aH rfl) (a7 rfl (bR rfl) (bX (aY ?_))))))))
   have hlt : i < g5 pa n at_ := by omega
   have hd := hdo (at_ + i) (by omega)
   rw [show oq pg (pa + (at_ + i)) = oq pg (pa + at_) by rw [oq, mz, (EQ hlt).1]; rfl, (EQ hlt).2] at hd
   refine bQ (a7 rfl (aA isAgg513 rfl (aN rfl)) ?_)
   refine a7 rfl (aH rfl) ?_
   refine a7 rfl (dp rfl rX rfl aj rfl (by first | exact Nat.zero_add _ | rfl)) ?_
   refine a7 rfl (aA aX rfl (aN rfl)) ?_
   refine a7 rfl (aH rfl) ?_
   refine a7 rfl (bO rfl rfl (by rw [aG (by omega)]; omega : IntKind.wrap .i64 ((((pa + at_) % 64 : Nat) : Int) + (i : Int)) = (((pa + at_) % 64 + i : Nat) : Int))) ?_
   refine a7 rfl (dp rfl rX rfl aj rfl (by first | exact Nat.zero_add _ | rfl)) ?_
   refine a7 rfl (aA aX rfl (aN rfl)) ?_
   refine a7 rfl (aH rfl) ?_
   refine a7 rfl (bO rfl rfl (by rw [aG (by omega)]; omega : IntKind.wrap .i64 ((at_ : Int) + (i : Int)) = ((at_ + i : Nat) : Int))) ?_
   refine aB rfl (OO rfl hcall rfl (hd _ inferInstance)) ?_
   rintro _ B_ ⟨rfl, hB_⟩
   obtain rfl := hB_.symm
   refine bX (lX (aY (bQ ?_)))
   refine a7 rfl (bO rfl rfl (by first | exact aG (by omega) | rfl)) ?_
   refine a7 rfl (aH rfl) (bX (aY ?_))
   refine bZ (i + 1) ?_ (he := ?_)
   ·omega
   simp only [← Nat.add_assoc]; exact inferInstance
  refine s8 (s9 (s9 (uo (lX ?_))))
  have e1 : i = g5 pa n at_ := by omega
  subst e1
  subst hHL
  refine OR ?_
  refine xg ?_
  exact ⟨_, .inl ⟨rfl, trivial, rfl⟩, inferInstance⟩
 ·intro D C hC
  obtain rfl := hC
  refine lX (sk (.inr rfl) .nil ?_)
  exact ⟨_, ⟨rfl, rfl⟩, inferInstance⟩
 intro D C hC
 exact hC.elim
def ot (fr : List aC) (pg : List Pl) (a : Nat) : Nat := kx fr (oq pg a) ((a % 64 : Nat) : Int) 1
def kA (fr : List aC) (pg : List Pl) (pa n : Nat) : List Nat := (List.range n).map fun i => ot fr pg (pa + i)
def ou (fr : List aC) (pg : List Pl) (pa : Nat) (n : Int) : List Nat := if kz fr.length pg pa n then kA fr pg pa n.toNat else []
theorem PY {fr : List aC} (hF : cH fr) (f off : Int) : kx fr f off 1 < 256 := by
 unfold kx; split
 ·rename_i hf
  obtain ⟨i, rfl, hi⟩ := oo hf
  unfold np; split
  ·have hb := (hF.get hi).2
   have := uM ((hb.drop off.toNat).take (1 : Int).toNat)
   refine Nat.lt_of_lt_of_le this ?_
   have : ((List.drop off.toNat (fr.getD (i : Int).toNat [])).take (1 : Int).toNat).length ≤ 1 := by simp; omega
   exact Nat.pow_le_pow_right (by decide) this
  decide
 decide
theorem ES {fr : List aC} (hF : cH fr) (pg : List Pl) (a : Nat) : ot fr pg a < 256 := PY hF _ _
theorem xu (fr : List aC) (pg : List Pl) (pa n : Nat) : (kA fr pg pa n).length = n := by simp [kA]
theorem ET {fr : List aC} (hF : cH fr) (pg : List Pl) (pa n : Nat) : By (kA fr pg pa n) := fun b hb => by
 obtain ⟨i, _, rfl⟩ := List.mem_map.1 hb
 exact ES hF _ _
def jF (f : Nat → Nat) (n i : Nat) : List Nat := (List.range n).map fun j => if j < i then f j else 0
theorem PZ (f : Nat → Nat) (n i : Nat) : (jF f n i).length = n := by simp [jF]
theorem Q0 (f : Nat → Nat) (n : Nat) : bW (jF f n 0) = List.replicate n (bV 0) := by
 apply List.ext_getElem <;> simp [jF, bW]
theorem Q1 (f : Nat → Nat) (n : Nat) : jF f n n = (List.range n).map f := by
 apply List.ext_getElem
 ·simp [jF]
 intro i h1 h2
 have : i < n := by simpa using h2
 simp [jF, this]
theorem Q2 {f : Nat → Nat} {n i : Nat} (hi : i < n) : (bW (jF f n i)).set i (bV (f i)) = bW (jF f n (i + 1)) := by
 apply List.ext_getElem
 ·simp [jF, bW]
 intro j h1 h2
 have hj : j < n := by simpa [jF, bW] using h2
 by_cases e : i = j
 ·subst e; simp [jF, bW]
 have : (j < i + 1) ↔ j < i := by omega
 simp [jF, bW, List.getElem_set, e, this]
theorem Q3 {f : Nat → Nat} {n i : Nat} (hi : i < n) : (bW (jF f n i)).set (i * 1) (bV (f i)) = bW (jF f n (i + 1)) := by rw [Nat.mul_one]; exact Q2 hi
abbrev AL (pv b1 b2 g n i : Nat) (f : Nat → Nat) : HP := cn [pt b1 (ac [.pointer (some ⟨pv, 0, none⟩)] 52), pt b2 (ac [.slice (some ⟨g, 0, none⟩) n n] 196), pt g (ac (bW (jF f n i)) 5)]
theorem Q4 (W0 : World) (R : List HP) (pv ps pm d b1 b2 g n i : Nat) (fr : List aC) (pg : List Pl) (hF : cH fr) (pa : Nat) (hi : i < n) (hn : n ≤ 512) : sQ W0 440 [.int .i64 (oq pg (pa + i)), .int .i64 ((pa + i) % 64 : Nat), .int .i64 (i : Nat), .pointer (some ⟨b1, 0, none⟩), .pointer (some ⟨b2, 0, none⟩)] (pt pv (cr ps pm d) :: bu ps fr :: pt pm (bJ pg) :: kH 0 (AL pv b1 b2 g n i (fun j => ot fr pg (pa + j))) :: R) (.tuple #[]) (pt pv (cr ps pm d) :: bu ps fr :: pt pm (bJ pg) :: kH 0 (AL pv b1 b2 g n (i + 1) (fun j => ot fr pg (pa + j))) :: R) := by
 have hlt := ES hF pg (pa + i)
 refine kU (qK (r1 := kH) (b1 := 0)) (mu ?_)
 simp only [List.cons_append, List.nil_append]
 refine ai 8 func440 ntmps440 ?_
 refine ar 11 (ao call215 rfl (ED ps fr _ _ 1 hF)) ?_
 refine a7 rfl (cX dk rY rfl (DN (by rw [show kx fr (oq pg (pa + i)) (((pa + i) % 64 : Nat) : Int) 1 = ot fr pg (pa + i) from rfl]; omega))) ?_
 refine a7 rfl (bc jQ jR rfl rfl rfl hi (by first | exact Nat.zero_add _ | rfl)) ?_
 refine o9 (bA jR rfl rfl rfl (by rw [e9, PZ]; omega) (Q3 (f := fun j => ot fr pg (pa + j)) hi)) ?_
 refine bX (bT (.inr rfl) .nil ?_)
 exact ⟨_, ⟨rfl, rfl⟩, inferInstance⟩
theorem Q5 (pv ps pm d : Nat) (fr : List aC) (pg : List Pl) (h : Pgs pg) (hF : cH fr) (pa : Nat) (hpa : pa < 4294967296) (n : Int) : sP W0 426 [.pointer (some ⟨pv, 0, none⟩), .int .u32 pa, .int .i64 n] (pt pv (cr ps pm d) :: bu ps fr :: pt pm (bJ pg) :: R) (fun v B => ∃ a c, v = .tuple #[.slice a (ou fr pg pa n).length c, .bool (kz fr.length pg pa n)] ∧ B = osl 5 1 (.slice a (ou fr pg pa n).length c) (bW (ou fr pg pa n)) :: pt pv (cr ps pm d) :: bu ps fr :: pt pm (bJ pg) :: R) := by
 by_cases ho : kz fr.length pg pa n = true
 ·obtain ⟨k, rfl⟩ : ∃ k : Nat, n = (k : Int) := ⟨n.toNat, by have := (uU.1 ho).1; omega⟩
  obtain ⟨hk, _⟩ := xt.1 ho
  have hr : ou fr pg pa (k : Int) = kA fr pg pa k := by rw [ou, if_pos ho]; rfl
  rw [hr, xu, ho]
  refine ai 2 func426 ntmps426 ?_
  refine ax (ik rfl rfl) fun b1 => ?_
  refine au 10 ?_
  refine ar 3 (du call438 rfl (ER W0 _ pv ps pm d fr pg h pa hpa k)) ?_
  refine a8 rfl (fun c1 => ?_) fun c1 => ?_
  ·exact absurd ho c1
  refine au 5 ?_
  refine ax (sG (sz := 1) (by_ := 1) (info := Tryz.t5) jQ (by kernel_rfl) rfl rfl rfl rfl (by decide) rfl rfl rfl rfl (by omega) (by decide)) fun b2 => ?_
  refine ax (o8 CP rfl) fun b3 => ?_
  refine aE 3 (bA pp rfl rfl rfl (Nat.le_of_ble_eq_true rfl) SetL.eq) ?_
  rw [show List.replicate (k * 1) (Value.int .u8 0) = bW (jF (fun j => ot fr pg (pa + j)) k 0) by rw [Q0, Nat.mul_one]; rfl]
  refine au 4 ?_
  refine a7 rfl (dM rfl rfl) ?_
  refine aM (od inferInstance (aD call439 rfl (PX W0 R pv ps pm pg h pa k hk (fun _ => d) (fun _ => fr) (fun i => AL pv b1 b3 b2 k i (fun j => ot fr pg (pa + j))) 440 [.pointer (some ⟨b1, 0, none⟩), .pointer (some ⟨b3, 0, none⟩)] call440 (fun i hi R' hR => Q4 W0 R' pv ps pm d b1 b3 b2 k i fr pg hF pa hi (by omega))))) ?_
  refine xm ?_
  simp only [List.cons_append, List.nil_append]
  refine au 10 ?_
  refine aJ ?_
  rw [Q1]
  exact ⟨_, ⟨some ⟨b2, 0, none⟩, k, rfl, rfl⟩, OS (by simp only [maxLen]; omega) (by rw [Nat.mul_one]; exact (e9 _).trans (xu fr pg pa k))⟩
 have hr : ou fr pg pa n = [] := by rw [ou, if_neg ho]
 have ho' : kz fr.length pg pa n = false := by simpa using ho
 rw [hr, ho']
 refine ai 2 func426 ntmps426 ?_
 refine ax (ik rfl rfl) fun b1 => ?_
 refine au 10 ?_
 refine ar 3 (du call438 rfl (ER W0 _ pv ps pm d fr pg h pa hpa n)) ?_
 refine a8 rfl (fun c1 => ?_) fun c1 => ?_
 ·refine au 8 ?_
  refine aJ ?_
  exact ⟨_, ⟨none, 0, rfl, rfl⟩, fR⟩
 exact absurd (by rw [ho']; decide) c1
def gH (d n : Nat) : List Nat := (List.range n).filter fun i => Nat.testBit d i
def uV (n : Nat) : Value := .int .i64 (n : Int)
def sY (l : List Nat) : List Value := l.map uV
theorem EU (d n : Nat) : gH d (n + 1) = gH d n ++ (if Nat.testBit d n then [n] else []) := by
 simp only [gH, List.range_succ, List.filter_append]
 congr 1
 by_cases h : Nat.testBit d n = true <;> simp [h]
theorem EV (d n : Nat) : (gH d n).length ≤ n := by
 have := List.length_filter_le (fun i => Nat.testBit d i) (List.range n)
 simpa [gH] using this
theorem EW (pv ps pm d : Nat) (hd : d < 4096) : sP W0 56 [.pointer (some ⟨pv, 0, none⟩)] (pt pv (cr ps pm d) :: R) (fun v B => ∃ a c, v = .slice a (gH d 12).length c ∧ B = osl 3 1 (.slice a (gH d 12).length c) (sY (gH d 12)) :: pt pv (cr ps pm 0) :: R) := by
 refine ai 9 func56 ntmps56 ?_
 refine ar 2 (ao zt rfl (uS pv ps pm d)) ?_
 refine a8 rfl (fun c1 => ?_) fun c1 => ?_
 ·exact absurd c1 (by decide)
 refine au 14 ?_
 refine ge (fun x : Nat × Option Addr × Nat => x.1 ≤ 12) (fun x => [(0, .pointer (some ⟨pv, 0, none⟩)), (3, .slice x.2.1 (gH d x.1).length x.2.2), (7, .int .i64 x.1)]) (fun x => osl 3 1 (.slice x.2.1 (gH d x.1).length x.2.2) (sY (gH d x.1)) :: pt pv (cr ps pm d) :: R) (fun x => 12 - x.1) (0, none, 0) ?_ ?_ ?_ ?_
 ·simp
 ·repeat (first | exact dy | refine db rfl ?_)
 ·exact fR
 intro ⟨i, a, c⟩ hi
 dsimp only at hi ⊢
 have hl := EV d i
 refine au 6 ?_
 refine a8 rfl (fun c5 => ?_) fun c5 => ?_
 ·refine au 17 ?_
  refine a7 rfl (jC rfl rfl (by omega) (lE (by simp [IntKind.bits]; omega))) ?_
  refine ap 3 (fJ rfl rfl (lD (b := 1) (Nat.lt_of_le_of_lt (Nat.div_le_self _ _) (by omega)) (by omega))) ?_
  refine a8 rfl (fun c7 => ?_) fun c7 => ?_
  ·have hb : Nat.testBit d i = true := by
    rw [Nat.testBit_eq_decide_div_mod_eq]; rw [Nat.and_one_is_mod] at c7; simp; omega
   have hs : gH d (i + 1) = gH d i ++ [i] := by rw [EU, if_pos hb]
   refine au 3 ?_
   refine ax (jT dB aj ml rfl rfl rfl rfl rfl (by decide) (by decide)) fun b1 => ?_
   refine aB rfl (eV (sz := 1) (by_ := 8) (info := Tryz.t3) dB (by kernel_rfl) rfl rfl rfl rfl (by decide) rfl rfl eC rfl rfl (by simp only [maxLen]; omega) (by omega)) ?_
   rintro _ _ ⟨a1, c1, rfl, rfl⟩
   refine au 5 ?_
   refine ap 3 (cM rfl rfl) ?_
   refine uq (i + 1, a1, c1) ?_ ?_ ?_ ?_
   ·omega
   ·omega
   ·simp only [hs, List.length_append, List.length_cons, List.length_nil]; repeat (first | exact dy | refine db rfl ?_)
   simp only [hs, sY, List.map_append, List.map_cons, List.map_nil, uV, List.length_append, List.length_cons, List.length_nil]; exact inferInstance
  have hb : ¬ Nat.testBit d i = true := by
   rw [Nat.testBit_eq_decide_div_mod_eq]; rw [Nat.and_one_is_mod] at c7; simp; omega
  have hs : gH d (i + 1) = gH d i := by rw [EU, if_neg hb, List.append_nil]
  obtain ⟨a1, rfl⟩ : ∃ x, x = a := ⟨a, rfl⟩
  obtain ⟨c1, rfl⟩ : ∃ x, x = c := ⟨c, rfl⟩
  refine au 4 ?_
  refine ap 3 (cM rfl rfl) ?_
  refine uq (i + 1, a1, c1) ?_ ?_ ?_ ?_
  ·omega
  ·omega
  ·simp only [hs, List.length_append, List.length_cons, List.length_nil]; repeat (first | exact dy | refine db rfl ?_)
  simp only [hs, sY, List.map_append, List.map_cons, List.map_nil, uV, List.length_append, List.length_cons, List.length_nil]; exact inferInstance
 refine au 10 ?_
 refine aE 9 (bA bE rfl rfl rfl (Nat.le_of_ble_eq_true rfl) SetL.eq) ?_
 refine ae ?_
 have e1 : i = 12 := by omega
 subst e1
 exact ⟨_, ⟨a, c, rfl, rfl⟩, inferInstance⟩
theorem Q6 {len : Nat} {pg : List Pl} {n : Int} : m4 len pg n = true ↔ aP pg n = true ∧ n < 8 ∧ (cm pg n).1 < len := by
 unfold m4; rw [Bool.and_eq_true, Bool.and_eq_true]
 exact ⟨fun h => ⟨h.1.1, of_decide_eq_true h.1.2, of_decide_eq_true h.2⟩, fun h => ⟨⟨h.1, decide_eq_true h.2.1⟩, decide_eq_true h.2.2⟩⟩
section
variable {rd : Option Nat} {P : Program} {S : World → Prop} {W0 : World} {N : FSz} {Q : Exit → Act → World → Prop} {e : aW} {A B R : List HP} {ops : Array Oper} {rest : List Oper}
variable {op : Op} {ty t t' : TypeId} {pos : String} {af : Array Edge} {v u : Value} {d b off : Nat} {x y z : Operand} {l l' vs : List Value} {L : Nat} {xr : RecX}
theorem xv {E n : Nat} {ps : Array (Nat × Operand)} (hu : P.underlying t = some (.array n E)) (hs : ∀ w, (sizeOf E).run P w = .ok 1 w) (hz : ∀ w, (zeroValue t).run P w = .ok (.agg l.toArray) w)
  (hev : eU e (ps.toList.map (·.2)) = some vs) (hix : ps.toList.map (·.1) = List.range' 0 ps.toList.length) (ha1 : fw vs = true) (hn : vs.length = l.length) : cy P S N e (.build t ps) (.agg vs.toArray) := fun a w _ _ _ _ _ hF _ => by
 have hel := A7 ps.toList 0 vs hev hix ha1
 have hfl := A6 (fun x v h => hF.eval h) ps.toList vs [] l (by simpa using hel) hn.symm
 simp only [Nat.mul_one, List.nil_append] at hfl
 have hb : Instr.build t (ps.map fun (i, x) => (i, a.eval x)) = (do
   let zero := (← zeroValue t).cells
   match ← underlying t with
   | .struct fields =>
    let places ← fields.mapM pA
    let some cells := Instr.fill (places[·]?) zero (ps.map fun (i, x) => (i, a.eval x)).toList | stuck "build: no such field, or a part of the wrong size"
    pure (.agg cells)
   | .array _ elem =>
    let size ← sizeOf elem
    let some cells := Instr.fill (fun i => some (i * size, size)) zero (ps.map fun (i, x) => (i, a.eval x)).toList | stuck "build: a part of the wrong size"
    pure (.agg cells)
   | _ => stuck "build: struct or array type expected") := rfl
 simp only [execOp, hb, Sem.run_bind, hz, e7 hu, hs, Result.andThen_ok, Value.cells, Sem.run_pure, Array.toList_map, Nat.mul_one]
 rw [hfl]; rfl
theorem EX {E n : Nat} {k : IntKind} {i : Int} {j : Nat} (hu : P.underlying t = some (.array n E)) (hs : ∀ w, (sizeOf E).run P w = .ok 1 w) (ha : ∀ w, (isAgg E).run P w = .ok false w) (hx : ev e x = some (.agg l.toArray)) (hy : ev e y = some (.int k i))
  (hi : i = (j : Int)) (hj : j < n) (hl : l[j]? = some v) : cy P S N e (.index t x y) v := fun a w _ _ _ _ _ hF _ => by
 subst hi
 have h1 : (0 : Int) ≤ (j : Int) ∧ (j : Int) < (n : Int) := by omega
 have hlt : j < l.length := by
  rcases Nat.lt_or_ge j l.length with q | q
  ·exact q
  rw [List.getElem?_eq_none q] at hl; cases hl
 simp only [execOp, Instr.index, hF.eval hx, hF.eval hy, asIntOf, Sem.run_bind, Sem.run_pure, Result.andThen_ok, e7 hu, h1, and_self, if_true, hs, Int.toNat_natCast, Nat.mul_one]
 rw [sf ha hl]; rfl
theorem AM {c : Code} (h : az W0 N (c.wpR none P (Exit.noGoto Q)) e A) : az W0 N ((Code.scope c).wpR none P Q) e A := fun a w hF hO => zX.2 (wp_scope_straight (zX.1 (h a w hF hO)))
instance a1O [h : POk Q] : POk (Exit.noGoto Q) := ⟨fun c a d v w k => h.ok c a d v w k⟩
theorem ov (h : az W0 N (Ex Q .ret) e A) : az W0 N (Ex (Exit.noGoto Q) .ret) e A := h
theorem EY {id : Nat} {Post : Value → List HP → Prop} [h : Tk df L A xr R] (hp : ∃ B, Post (.bool false) B ∧ Ent (df L { xr with st := .done, pe := some (.exit id) } :: R) B) : az W0 N (Ex (sD P W0 L Post) (.exit id)) e A := by
 intro a w hF hO
 obtain ⟨fn, tmps, h1, h2, hO1⟩ := (hO.tk (r := df) (b := L)).loopRec
 obtain ⟨B, hB, hE⟩ := hp
 exact ⟨_, _, run_endRound (some (.exit id)) hO1.has.2, _, B, rfl, hB, Own.ent (Own.toRec (x := { xr with st := .done, pe := some (.exit id) }) h1 h2 (hO1.turn _)) hE⟩
theorem Q7 {n gf : Nat} {g : Operand} {ps : Array Tmp} {asg body : Code} {lb : List Value} (id : Nat) (Go Stop : List HP → Prop) (hg : ev e g = some (.func (.func gf) #[] lb.toArray))
  (hc : ∀ args w, (callFunc gf args).run P w = .ok (.enter gf args) w)
  (hs : ∀ L D, bN P W0 gf (.func (.yield L) #[] #[] :: lb) (df L ⟨e, n, ps, asg, body, .ready, none, D⟩ :: pt D (.deferred (some [])) :: A)
   (fun _ B => (∃ C, B = df L ⟨e, n, ps, asg, body, .ready, none, D⟩ :: pt D (.deferred (some [])) :: C ∧ Go C) ∨ (∃ C, B = df L ⟨e, n, ps, asg, body, .done, some (.exit id), D⟩ :: pt D (.deferred (some [])) :: C ∧ Stop C)))
  (hgo : ∀ D C, Go C → az W0 ⟨n, [mr D]⟩ (Ex Q .normal) e (pt D (.deferred (some [])) :: C))
  (hstop : ∀ D C, Stop C → az W0 ⟨n, [mr D]⟩ (Ex Q (.exit id)) e (pt D (.deferred (some [])) :: C)) :
  az W0 ⟨n, []⟩ ((Code.rangeFunc g ps asg body).wpR none P Q) e A := by
 intro a w hF hO
 refine wpIn_rangeFunc (F := FW none) (n := 0) ?_
 intro fn _
 have hO1 : Own W0 ((w.alloc (.deferred (some []))).alloc (.loop ((⟨e, n, ps, asg, body, .ready, none, w.heap.size⟩ : RecX).loop fn a.tmps))) (df (w.heap.size + 1) ⟨e, n, ps, asg, body, .ready, none, w.heap.size⟩ :: pt w.heap.size (.deferred (some [])) :: A) := by
  refine Own.toRec (fn := fn) hF.size hF.at_ ?_
  have h1 := (hO.new (.deferred (some []))).new (.loop ((⟨e, n, ps, asg, body, .ready, none, w.heap.size⟩ : RecX).loop fn a.tmps))
  have e1 : (w.heap.push (.deferred (some []))).size = w.heap.size + 1 := by simp
  simp only [e1] at h1
  exact h1
 have hent := run_enterLoop_outer (P := P) (w := w) fn a.tmps ps asg body
 generalize hW1 : (w.alloc (.deferred (some []))).alloc (.loop ((⟨e, n, ps, asg, body, .ready, none, w.heap.size⟩ : RecX).loop fn a.tmps)) = W1 at hO1
 rw [show (w.alloc (.deferred (some []))).alloc (.loop { state := .ready, pending := none, fn, tmps := a.tmps, params := ps, assign := asg, body, defers := w.heap.size }) = W1 from hW1] at hent
 have hF' : ∀ D, Fr { a with defers := [mr D] ++ a.defers } ⟨n, [mr D]⟩ e := fun D => ⟨by simp [hF.defers], hF.size, hF.at_⟩
 refine ⟨w.heap.size + 1, [{ target := .collected w.heap.size, args := #[] }], W1, { target := .fn (.func gf) lb.toArray, args := #[.func (.yield (w.heap.size + 1)) #[] #[]] }, W1, gf,
  #[.func (.yield (w.heap.size + 1)) #[] #[]] ++ lb.toArray, W1, hent, ?_, fun _ _ => trivial, ?_, fun h => (by cases h), ?_⟩
 ·have hgv := hF.eval hg
  simp only [resolve, hgv]
  simp [go_sem]
 ·simp [invoke, go_sem, hc]
 refine wO.2 ?_
 have e2 : (#[.func (.yield (w.heap.size + 1)) #[] #[]] ++ lb.toArray : Array Value) = (.func (.yield (w.heap.size + 1)) #[] #[] :: lb).toArray := by simp
 rw [e2]
 refine Calls.mono (hs (w.heap.size + 1) w.heap.size _ hO1) ?_
 rintro _ w' ⟨v, B, rfl, hp, hO2⟩
 rcases hp with ⟨C, rfl, hC⟩ | ⟨C, rfl, hC⟩
 ·obtain ⟨fn', tmps', h1, h2, hO3⟩ := hO2.loopRec
  refine ⟨none, _, run_endLoop hO3.has.2 (by simp [RecX.loop]), ?_⟩
  exact hgo _ C hC _ _ (hF' _) (hO3.turn _).drop
 obtain ⟨fn', tmps', h1, h2, hO3⟩ := hO2.loopRec
 refine ⟨some (.exit id), _, run_endLoop hO3.has.2 (by simp [RecX.loop]), ?_⟩
 exact wpIn_exit (hstop _ C hC _ _ (hF' _) (hO3.turn _).drop)
theorem xw {E n c sz : Nat} {a : Option Addr} {ys : List Value} {K : Act → World → Prop} [h : Tk (osl E sz) (.slice a n c) A ys R] (k : n ≤ c ∧ c ≤ maxLen → az W0 N K e A) : az W0 N K e A := fun act w hF hO => by
 refine k ?_ act w hF hO
 rcases (hO.tk (r := osl E sz) (b := .slice a n c)).osl with ⟨k1, k2, _⟩ | ⟨g, n', cap, sp, k1, k2, k3, _, _, _⟩
 ·cases k1; simp
 cases k1; exact ⟨k2, k3⟩
theorem sZ {a : Option Addr} {ys : List Value} (h : An a ys) (hne : ys ≠ []) : ∃ g, a = some ⟨g, 0, none⟩ := by
 rcases h with ⟨_, q⟩ | q
 ·exact absurd q hne
 exact q
end
abbrev eg (pv ps pm d : Nat) (fr : List aC) (pg : List Pl) (R : List HP) : List HP := pt pv (cr ps pm d) :: bu ps fr :: pt pm (bJ pg) :: R
def fV (page : Int) (i : Nat) : Nat := 64 * page.toNat + 4 * (i % 16)
def eY (len : Nat) (pg : List Pl) (page : Int) (i : Nat) : Bool := decide (0 ≤ page ∧ page < 8) && kz len pg (fV page i) 4
theorem r9 {len : Nat} {pg : List Pl} {page : Int} {i : Nat} : eY len pg page i = true ↔ (0 ≤ page ∧ page < 8) ∧ kz len pg (fV page i) 4 = true := by
 rw [eY, Bool.and_eq_true]; exact ⟨fun h => ⟨of_decide_eq_true h.1, h.2⟩, fun h => ⟨decide_eq_true h.1, h.2⟩⟩
def eM (fr : List aC) (pg : List Pl) (page : Int) (i : Nat) : Nat := if eY fr.length pg page i then jD (kA fr pg (fV page i) 4) else 0
theorem EZ {fr : List aC} (hF : cH fr) (pg : List Pl) (page : Int) (i : Nat) : eM fr pg page i < 4294967296 := by
 unfold eM; split
 ·have := uM (ET hF pg (fV page i) 4); rw [xu] at this; exact this
 decide
theorem Q8 {l : List Nat} (h : l.length = 4) : np l 0 4 = jD l ∧ qT l 0 4 = 0 := by
 have hi : dV l.length 0 4 = true := fD.2 (by omega)
 constructor
 ·rw [np, if_pos hi]
  show jD ((l.drop 0).take 4) = jD l
  rw [List.drop_zero, List.take_of_length_le (by omega)]
 rw [qT, if_pos hi]
theorem xx (pv ps pm d : Nat) (fr : List aC) (pg : List Pl) (h : Pgs pg) (hF : cH fr) (page : Int) (i : Nat) (hi : i < 4294967296) : sQ W0 399 [.pointer (some ⟨pv, 0, none⟩), .int .i64 page, .int .u32 i] (eg pv ps pm d fr pg R) (.tuple #[.int .u32 (eM fr pg page i : Nat), .bool (eY fr.length pg page i)]) (eg pv ps pm d fr pg R) := by
 refine ai 12 func399 ntmps399 ?_
 refine bB rfl rfl rfl (fun g1_3 => ?_) fun g1_3 => ?_
 ·refine au 13 ?_
  refine aJ ?_
  refine aR ?_
  have hb : eY fr.length pg page i = false := by rw [← Bool.not_eq_true, r9]; rintro ⟨q, _⟩; omega
  simp [bz, eM, hb]
 refine au 6 ?_
 refine a8 rfl (fun c1 => ?_) fun c1 => ?_
 ·refine au 8 ?_
  refine aJ ?_
  refine aR ?_
  have hb : eY fr.length pg page i = false := by rw [← Bool.not_eq_true, r9]; rintro ⟨q, _⟩; omega
  simp [bz, eM, hb]
 refine au 3 ?_
 obtain ⟨p, rfl⟩ : ∃ p : Nat, page = (p : Int) := ⟨page.toNat, by omega⟩
 have hpa : fV (p : Int) i = 64 * p + 4 * (i % 16) := rfl
 refine au 3 ?_
 refine a7 rfl (iH rfl rfl (by rw [aG (by omega)]; omega : IntKind.wrap .i64 ((p : Int) * 64) = ((64 * p : Nat) : Int))) ?_
 refine a7 rfl (cX cW dk rfl (eA (by omega))) ?_
 refine a7 rfl (aH rfl) (a7 rfl (fJ rfl rfl (El hi)) ?_)
 refine a7 rfl (iH rfl rfl (by rw [eA (by omega)]; omega : IntKind.wrap .u32 (4 * ((i % 16 : Nat) : Int)) = ((4 * (i % 16) : Nat) : Int))) ?_
 refine a7 rfl (bO rfl rfl (by rw [eA (by omega), hpa]; omega : IntKind.wrap .u32 (((64 * p : Nat) : Int) + ((4 * (i % 16) : Nat) : Int)) = ((fV (p : Int) i : Nat) : Int))) ?_
 refine aB rfl (du call426 rfl (Q5 pv ps pm d fr pg h hF (fV (p : Int) i) (by omega) 4)) ?_
 rintro _ B_ ⟨a, c, rfl, hB_⟩
 obtain rfl := hB_.symm
 refine au 14 ?_
 refine a8 rfl (fun c4 => ?_) fun c4 => ?_
 ·have ho : ¬ kz fr.length pg (fV (p : Int) i) 4 = true := c4
  refine au 8 ?_
  refine aJ ?_
  refine aR ?_
  have hb : eY fr.length pg p i = false := by rw [← Bool.not_eq_true, r9]; rintro ⟨_, q⟩; exact ho q
  simp [bz, eM, hb]
 have ho : kz fr.length pg (fV (p : Int) i) 4 = true := Decidable.not_not.1 c4
 have hb : eY fr.length pg p i = true := r9.2 ⟨by omega, ho⟩
 have hrd : ou fr pg (fV (p : Int) i) 4 = kA fr pg (fV (p : Int) i) 4 := by rw [ou, if_pos ho]; rfl
 have hln : (kA fr pg (fV (p : Int) i) 4).length = 4 := xu _ _ _ _
 obtain ⟨hg1, hg2⟩ := Q8 hln
 rw [hrd]
 refine sI (E := 5) (sz := 1) (a := a) (c := c) (n := (kA fr pg (fV (p : Int) i) 4).length) (fun hf => ?_)
 obtain ⟨g, rfl⟩ := sZ hf (by intro h0; have := congrArg List.length h0; rw [e9, hln] at this; simp at this)
 refine xw (E := 5) (sz := 1) (a := some ⟨g, 0, none⟩) (c := c) (n := (kA fr pg (fV (p : Int) i) 4).length) (fun hcap => ?_)
 refine au 5 ?_
 refine aM (aD call283 rfl (Er g 0 c (kA fr pg (fV (p : Int) i) 4) 0 4 (Ao (E := 5) (sz := 1) (a := some ⟨g, 0, none⟩) (c := c) (n := (kA fr pg (fV (p : Int) i) 4).length)) (ET hF _ _ _) hcap.1 (Eu hcap.2))) ?_
 rw [hg1, hg2]
 refine au 17 ?_
 refine aJ ?_
 refine aR ?_
 simp [bz, eM, hb]
structure WS where
  on : Bool
  r : Int
  p : Int
  fault : Int
  root : Int
  leaf : Int
@[reducible] def pL (s : WS) : List Value := [.bool s.on, .int .i64 s.r, .int .i64 s.p, .int .i64 s.fault, .int .i64 s.root, .int .i64 s.leaf]
def oy : WS := ⟨false, 0, 0, 0, -1, -1⟩
abbrev pM (pv va : Nat) (s : WS) : Obj := ac (.pointer (some ⟨pv, 0, none⟩) :: .int .u32 va :: pL s) 475
theorem F0 (x : Int) : (x != 0) = !decide (x = 0) := by by_cases q : x = 0 <;> simp [q]
theorem uW (bw pv va : Nat) (s : WS) (f : Int) : sQ W0 372 [.pointer (some ⟨bw, 0, none⟩), .int .i64 f] (pt bw (pM pv va s) :: R) (.bool (f != 0)) (pt bw (pM pv va { s with fault := f }) :: R) := by
 refine ai 12 func372 ntmps372 ?_
 refine aE 10 (bA aj rfl rfl rfl (Nat.le_of_ble_eq_true rfl) SetL.eq) ?_
 exact ae aL
def kB (fr : List aC) (pg : List Pl) (va : Nat) (a : Int) (s : WS) : WS :=
  if eY fr.length pg a (va / 1024) then { s with root := a, fault := qS (eM fr pg a (va / 1024)) } else { s with fault := 3 }
def fy (fr : List aC) (pg : List Pl) (va : Nat) (a : Int) : Int := if eY fr.length pg a (va / 1024) then uN (eM fr pg a (va / 1024)) else 0
def j5 (fr : List aC) (pg : List Pl) (va : Nat) (a : Int) : Bool := eY fr.length pg a (va / 1024) && decide (qS (eM fr pg a (va / 1024)) = 0)
theorem F1 {w : Nat} : kQ .u32 w 10 = ((w / 1024 : Nat) : Int) := lE (s := 10) (by decide)
theorem F2 {w : Nat} : kQ .u32 w 6 = ((w / 64 : Nat) : Int) := lE (s := 6) (by decide)
theorem Q9 (bw pv ps pm d : Nat) (fr : List aC) (pg : List Pl) (h : Pgs pg) (hF : cH fr) (va : Nat) (hva : va < 4294967296) (s : WS) (a : Int) : sQ W0 374 [.pointer (some ⟨bw, 0, none⟩), .int .i64 a] (pt bw (pM pv va s) :: eg pv ps pm d fr pg R) (.tuple #[.int .i64 (fy fr pg va a), .bool (j5 fr pg va a)]) (pt bw (pM pv va (kB fr pg va a s)) :: eg pv ps pm d fr pg R) := by
 by_cases hb : eY fr.length pg a (va / 1024) = true
 ·rw [fy, if_pos hb, kB, if_pos hb, j5, hb, Bool.true_and]
  refine ai 7 func374 ntmps374 ?_
  refine aU [(bw, 0, _)] 16 aT rfl (aa ag) (fun hS => ?_)
  refine ah 0 9 hS ?_
  refine av 9 rfl rfl rfl hS (jC rfl rfl (by decide) F1) ?_
  refine bF 10 rfl rfl (du CS rfl (xx pv ps pm d fr pg h hF a (va / 1024) (by omega))) (aa ag) fun hS => ?_
  refine ah 11 5 hS ?_
  refine aK ?_
  refine au 8 ?_
  refine a8 rfl (fun c2 => ?_) fun c2 => ?_
  ·exact absurd hb c2
  refine au 9 ?_
  refine aE 5 (bA aj rfl rfl rfl (Nat.le_of_ble_eq_true rfl) SetL.eq) ?_
  refine ar 12 (aD call400 rfl (Pb (eM fr pg a (va / 1024)) (EZ hF _ _ _))) ?_
  refine ar 6 (ao zv rfl (uW bw pv va { s with root := a } _)) ?_
  refine aJ ?_
  refine aR ?_
  simp [bz]
  exact F0 _
 have hb' : eY fr.length pg a (va / 1024) = false := by simpa using hb
 rw [fy, if_neg hb, kB, if_neg hb, j5, hb', Bool.false_and]
 refine ai 7 func374 ntmps374 ?_
 refine aU [(bw, 0, _)] 16 aT rfl (aa ag) (fun hS => ?_)
 refine ah 0 9 hS ?_
 refine av 9 rfl rfl rfl hS (jC rfl rfl (by decide) F1) ?_
 refine bF 10 rfl rfl (du CS rfl (xx pv ps pm d fr pg h hF a (va / 1024) (by omega))) (aa ag) fun hS => ?_
 refine ah 11 5 hS ?_
 refine aK ?_
 refine au 8 ?_
 refine a8 rfl (fun c2 => ?_) fun c2 => ?_
 ·refine au 3 ?_
  refine ar 7 (ao zv rfl (uW bw pv va _ _)) ?_
  exact aJ aL
 exact absurd (by rw [hb']; decide) c2
def oz (fr : List aC) (pg : List Pl) (va : Nat) (a : Int) (s : WS) : WS :=
  if eY fr.length pg a (va / 64) then { s with leaf := a, on := oi (eM fr pg a (va / 64)), r := oj (eM fr pg a (va / 64)), p := ol (eM fr pg a (va / 64)), fault := om (eM fr pg a (va / 64)) } else { s with fault := 3 }
def xy (fr : List aC) (pg : List Pl) (va : Nat) (a : Int) : Bool := eY fr.length pg a (va / 64) && decide (om (eM fr pg a (va / 64)) = 0)
theorem Qa (bw pv ps pm d : Nat) (fr : List aC) (pg : List Pl) (h : Pgs pg) (hF : cH fr) (va : Nat) (hva : va < 4294967296) (s : WS) (a : Int) : sQ W0 376 [.pointer (some ⟨bw, 0, none⟩), .int .i64 a] (pt bw (pM pv va s) :: eg pv ps pm d fr pg R) (.bool (xy fr pg va a)) (pt bw (pM pv va (oz fr pg va a s)) :: eg pv ps pm d fr pg R) := by
 by_cases hb : eY fr.length pg a (va / 64) = true
 ·rw [oz, if_pos hb, xy, hb, Bool.true_and]
  refine ai 6 func376 ntmps376 ?_
  refine aU [(bw, 0, _)] 16 aT rfl (aa ag) (fun hS => ?_)
  refine ah 0 9 hS ?_
  refine av 9 rfl rfl rfl hS (jC rfl rfl (by decide) F2) ?_
  refine bF 10 rfl rfl (du CS rfl (xx pv ps pm d fr pg h hF a (va / 64) (by omega))) (aa ag) fun hS => ?_
  refine ah 11 5 hS ?_
  refine aK ?_
  refine au 8 ?_
  refine a8 rfl (fun c2 => ?_) fun c2 => ?_
  ·exact absurd hb c2
  refine au 9 ?_
  refine aE 5 (bA aj rfl rfl rfl (Nat.le_of_ble_eq_true rfl) SetL.eq) ?_
  refine aM (aD call401 rfl (Pe (eM fr pg a (va / 64)) (EZ hF _ _ _))) ?_
  rw [uO]
  refine au 3 ?_
  refine ax (aS pn) fun b1 => ?_
  refine aE 10 (aF je rfl rfl rfl rfl rfl) ?_
  refine aE 6 (ed je rfl rfl rfl rfl (Nat.le_of_ble_eq_true rfl) SetRL.eq) ?_
  refine ar 5 (ao zv rfl (uW bw pv va { s with leaf := a, on := oi (eM fr pg a (va / 64)), r := oj (eM fr pg a (va / 64)), p := ol (eM fr pg a (va / 64)) } _)) ?_
  refine ae ?_
  refine aR ?_
  simp [bz]
  exact F0 _
 have hb' : eY fr.length pg a (va / 64) = false := by simpa using hb
 rw [oz, if_neg hb, xy, hb', Bool.false_and]
 refine ai 6 func376 ntmps376 ?_
 refine aU [(bw, 0, _)] 16 aT rfl (aa ag) (fun hS => ?_)
 refine ah 0 9 hS ?_
 refine av 9 rfl rfl rfl hS (jC rfl rfl (by decide) F2) ?_
 refine bF 10 rfl rfl (du CS rfl (xx pv ps pm d fr pg h hF a (va / 64) (by omega))) (aa ag) fun hS => ?_
 refine ah 11 5 hS ?_
 refine aK ?_
 refine au 8 ?_
 refine a8 rfl (fun c2 => ?_) fun c2 => ?_
 ·refine au 3 ?_
  refine ar 6 (ao zv rfl (uW bw pv va _ _)) ?_
  exact ae aL
 exact absurd (by rw [hb']; decide) c2
def eZ (fr : List aC) (pg : List Pl) (root : Int) (va : Nat) : Nat → WS × Int
  | 0 => (oy, root)
  | 1 => (if va < 16384 then oy else { oy with fault := 2 }, root)
  | 2 => (kB fr pg va root oy, fy fr pg va root)
  | _ => (oz fr pg va (fy fr pg va root) (kB fr pg va root oy), fy fr pg va root)
def jG (fr : List aC) (pg : List Pl) (root : Int) (va : Nat) : Nat → Bool
  | 0 => decide (va < 16384)
  | 1 => j5 fr pg va root
  | _ => xy fr pg va (fy fr pg va root)
def cu (fr : List aC) (pg : List Pl) (root : Int) (va : Nat) : WS :=
  if va < 16384 then (if j5 fr pg va root then (eZ fr pg root va 3).1 else (eZ fr pg root va 2).1) else (eZ fr pg root va 1).1
abbrev oA (bva bwp bat bw pv ps pm d : Nat) (fr : List aC) (pg : List Pl) (va : Nat) (q : WS × Int) (R : List HP) : List HP :=
  pt bva (ac [.int .u32 va] 37) :: pt bwp (ac [.pointer (some ⟨bw, 0, none⟩)] 473) :: pt bat (ac [.int .i64 q.2] 3) :: pt bw (pM pv va q.1) :: eg pv ps pm d fr pg R
theorem Qb (W0 : World) (R : List HP) (bva bwp bat bw pv ps pm d : Nat) (fr : List aC) (pg : List Pl) (root : Int) (va : Nat) :
    bN Tryz.prog W0 371 [.pointer (some ⟨bva, 0, none⟩), .pointer (some ⟨bwp, 0, none⟩)] (oA bva bwp bat bw pv ps pm d fr pg va (eZ fr pg root va 0) R)
      (fun v B => v = .bool (jG fr pg root va 0) ∧ B = oA bva bwp bat bw pv ps pm d fr pg va (eZ fr pg root va 1) R) := by
  refine gY func371 ntmps371 rfl rfl ?_
  refine bD (bQ (a7 rfl (bR rfl) (bX (aY (bD (bQ (a7 rfl (aA ia rfl (aN rfl)) ?_)))))))
  refine a7 rfl (kR rfl rfl) (a7 rfl (aH rfl) ?_)
  refine bB rfl rfl rfl (fun g1_3 => ?_) fun g1_3 => ?_
  · refine fI rfl rfl rfl rfl ?_
    refine fI rfl rfl rfl rfl (a7 rfl (kP rfl rfl) (a7 rfl (bR rfl) (bX (aY (gE (bT (.inl rfl) (.cons (bK rfl) .nil) ?_))))))
    first
      | (have hv : va < 16384 := by omega
         simp only [eZ, jG, if_pos hv, decide_eq_true hv]
         exact ⟨_, ⟨rfl, rfl⟩, inferInstance⟩)
      | (have hv : ¬ va < 16384 := by omega
         simp only [eZ, jG, if_neg hv, decide_eq_false hv]
         exact ⟨_, ⟨rfl, rfl⟩, inferInstance⟩)
  refine a7 rfl (aA isAgg473 rfl (aN rfl)) ?_
  refine cP rfl rfl (aB rfl (ao zv rfl (uW bw pv va oy 2)) ?_)
  rintro _ B_ ⟨rfl, hB_⟩
  obtain rfl := hB_.symm
  refine cP rfl rfl (a7 rfl (lZ rfl) (a7 rfl (iY rfl rfl) (a7 rfl (bR rfl) (bX (aY (gE (bT (.inl rfl) (.cons (bK rfl) .nil) ?_)))))))
  first
    | (have hv : va < 16384 := by omega
       simp only [eZ, jG, if_pos hv, decide_eq_true hv]
       exact ⟨_, ⟨rfl, rfl⟩, inferInstance⟩)
    | (have hv : ¬ va < 16384 := by omega
       simp only [eZ, jG, if_neg hv, decide_eq_false hv]
       exact ⟨_, ⟨rfl, rfl⟩, inferInstance⟩)
theorem Qc (bva bwp bat bw pv ps pm d : Nat) (fr : List aC) (pg : List Pl) (h : Pgs pg) (hF : cH fr) (root : Int) (va : Nat) (hva : va < 16384) : sQ W0 373 [.pointer (some ⟨bwp, 0, none⟩), .pointer (some ⟨bat, 0, none⟩)] (oA bva bwp bat bw pv ps pm d fr pg va (eZ fr pg root va 1) R) (.bool (jG fr pg root va 1)) (oA bva bwp bat bw pv ps pm d fr pg va (eZ fr pg root va 2) R) := by
 simp only [eZ, jG, if_pos hva]
 refine ai 9 func373 ntmps373 ?_
 refine ar 10 (kV call374 rfl (Q9 bw pv ps pm d fr pg h hF va (by omega) oy root)) ?_
 refine aE 9 (bA aj rfl rfl rfl (Nat.le_of_ble_eq_true rfl) SetL.eq) ?_
 exact ae aL
theorem Qd (bva bwp bat bw pv ps pm d : Nat) (fr : List aC) (pg : List Pl) (h : Pgs pg) (hF : cH fr) (root : Int) (va : Nat) (hva : va < 16384) : sQ W0 375 [.pointer (some ⟨bwp, 0, none⟩), .pointer (some ⟨bat, 0, none⟩)] (oA bva bwp bat bw pv ps pm d fr pg va (eZ fr pg root va 2) R) (.bool (jG fr pg root va 2)) (oA bva bwp bat bw pv ps pm d fr pg va (eZ fr pg root va 3) R) := by
 simp only [eZ, jG]
 refine ai 9 func375 ntmps375 ?_
 refine ar 4 (kV call376 rfl (Qa bw pv ps pm d fr pg h hF va (by omega) _ (fy fr pg va root))) ?_
 exact ae aL
def t2 (bva bwp bat : Nat) : List Value := [.func (.func 371) #[] #[.pointer (some ⟨bva, 0, none⟩), .pointer (some ⟨bwp, 0, none⟩)], .func (.func 373) #[] #[.pointer (some ⟨bwp, 0, none⟩), .pointer (some ⟨bat, 0, none⟩)], .func (.func 375) #[] #[.pointer (some ⟨bwp, 0, none⟩), .pointer (some ⟨bat, 0, none⟩)]]
theorem Qe {W0 : World} {N : FSz} {e : aW} {R : List HP} {bva bwp bat bw pv ps pm d : Nat} {fr : List aC} {pg : List Pl} {root : Int} {va i : Nat} {fx : Operand} {v : Value} (h : Pgs pg) (hF : cH fr) (hi : i < 3) (hal : ∀ m, m < i → jG fr pg root va m = true) (hv : (t2 bva bwp bat)[i]? = some v) (hx : ev e fx = some v) :
  dj Tryz.prog W0 N e (oA bva bwp bat bw pv ps pm d fr pg va (eZ fr pg root va i) R) (.call { callee := .value fx, args := #[], argTypes := #[] }) (fun v B => v = .bool (jG fr pg root va i) ∧ B = oA bva bwp bat bw pv ps pm d fr pg va (eZ fr pg root va (i + 1)) R) := by
 have h3 : i = 0 ∨ i = 1 ∨ i = 2 := by omega
 rcases h3 with rfl | rfl | rfl
 ·cases hv
  exact gF (us := []) (vs := []) (cs := [.pointer (some ⟨bva, 0, none⟩), .pointer (some ⟨bwp, 0, none⟩)]) hx call371 rfl (Qb W0 R bva bwp bat bw pv ps pm d fr pg root va)
 ·cases hv
  have hva : va < 16384 := of_decide_eq_true (hal 0 (by decide))
  exact gF (us := []) (vs := []) (cs := [.pointer (some ⟨bwp, 0, none⟩), .pointer (some ⟨bat, 0, none⟩)]) hx call373 rfl (Qc bva bwp bat bw pv ps pm d fr pg h hF root va hva)
 cases hv
 have hva : va < 16384 := of_decide_eq_true (hal 0 (by decide))
 exact gF (us := []) (vs := []) (cs := [.pointer (some ⟨bwp, 0, none⟩), .pointer (some ⟨bat, 0, none⟩)]) hx call375 rfl (Qd bva bwp bat bw pv ps pm d fr pg h hF root va hva)
theorem Qf {fr : List aC} {pg : List Pl} {root : Int} {va i : Nat} (hi : i < 3) (hal : ∀ m, m < i → jG fr pg root va m = true) (hst : jG fr pg root va i = false) : cu fr pg root va = (eZ fr pg root va (i + 1)).1 := by
 have h3 : i = 0 ∨ i = 1 ∨ i = 2 := by omega
 rcases h3 with rfl | rfl | rfl
 ·have : ¬ va < 16384 := of_decide_eq_false hst
  rw [cu, if_neg this]
 ·have hva : va < 16384 := of_decide_eq_true (hal 0 (by decide))
  have : ¬ j5 fr pg va root = true := by rw [show j5 fr pg va root = false from hst]; decide
  rw [cu, if_pos hva, if_neg this]
 have hva : va < 16384 := of_decide_eq_true (hal 0 (by decide))
 rw [cu, if_pos hva, if_pos (show j5 fr pg va root = true from hal 1 (by decide))]
theorem Qg {fr : List aC} {pg : List Pl} {root : Int} {va : Nat} (hal : ∀ m, m < 3 → jG fr pg root va m = true) : cu fr pg root va = (eZ fr pg root va 3).1 := by
 have hva : va < 16384 := of_decide_eq_true (hal 0 (by decide))
 rw [cu, if_pos hva, if_pos (show j5 fr pg va root = true from hal 1 (by decide))]
theorem AN (pv ps pm d : Nat) (fr : List aC) (pg : List Pl) (h : Pgs pg) (hF : cH fr) (root : Int) (va : Nat) (hva : va < 4294967296) : sQ W0 331 [.pointer (some ⟨pv, 0, none⟩), .int .i64 root, .int .u32 va] (eg pv ps pm d fr pg R) (.agg (pL (cu fr pg root va)).toArray) (eg pv ps pm d fr pg R) := by
 refine ai 2 func331 ntmps331 ?_
 refine ax (ik rfl rfl) fun b1 => ?_
 refine ax (aS zw) fun b2 => ?_
 refine au 2 ?_
 refine AM (au 4 ?_)
 refine a7 rfl (bq ZY zw (am je (am aj (am aj (am aj bj)))) (aI rfl aj rfl rfl (Nat.le_of_ble_eq_true rfl) SetL.eq (aI rfl aj rfl rfl (Nat.le_of_ble_eq_true rfl) SetL.eq bi))) ?_
 refine a7 rfl (bq a0a zeroValue475 (am rV (am bE (am mV bj))) (aI rfl rV rfl rfl (Nat.le_of_ble_eq_true rfl) SetL.eq (aI rfl bE rfl rfl (Nat.le_of_ble_eq_true rfl) SetL.eq (iJ rfl mV rfl rfl (Nat.le_of_ble_eq_true rfl) SetRL.eq bi)))) ?_
 refine ax (aV rfl) fun b3 => ?_
 refine ax (o8 zeroValue473 rfl) fun b4 => ?_
 refine aE 5 (bA sizeOf473 rfl rfl rfl (Nat.le_of_ble_eq_true rfl) SetL.eq) ?_
 refine ax (o8 ml rfl) fun b5 => ?_
 refine aE 4 (bA aj rfl rfl rfl (Nat.le_of_ble_eq_true rfl) SetL.eq) ?_
 refine a7 rfl (dM rfl rfl) ?_
 refine a7 rfl (dM rfl rfl) ?_
 refine a7 rfl (dM rfl rfl) ?_
 refine ax (jT Jv sizeOf41 zeroValue41 rfl rfl rfl rfl rfl (by decide) (by decide)) fun b6 => ?_
 refine au 4 ?_
 refine zZ (au 10 ?_)
 refine ge (fun i : Nat => i ≤ 3 ∧ ∀ m, m < i → jG fr pg root va m = true) (fun i => [(6, .pointer (some ⟨b2, 0, none⟩)), (7, .pointer (some ⟨b4, 0, none⟩)), (22, .slice (some ⟨b6, 0, none⟩) 3 3), (23, .int .i64 3), (24, .int .i64 i)]) (fun i => pt b6 (ac (t2 b1 b4 b5) 41) :: pt b2 (ac (pL ⟨false, 0, 0, 0, 0, 0⟩) 416) :: oA b1 b4 b5 b3 pv ps pm d fr pg va (eZ fr pg root va i) R) (fun i => 3 - i) 0 ?_ ?_ ?_ ?_
 ·exact ⟨Nat.zero_le _, fun m hm => by omega⟩
 ·repeat (first | exact dy | refine db rfl ?_)
 ·show Ent (pt b6 (ac (t2 b1 b4 b5) 41) :: pt b5 (ac [.int .i64 (eZ fr pg root va 0).2] 3) :: pt b4 (ac [.pointer (some ⟨b3, 0, none⟩)] 473) :: pt b3 (pM pv va (eZ fr pg root va 0).1) :: pt b2 (ac (pL ⟨false, 0, 0, 0, 0, 0⟩) 416) :: pt b1 (ac [.int .u32 va] 37) :: eg pv ps pm d fr pg R) _
  exact inferInstance
 intro i ⟨hi, hal⟩
 refine au 6 ?_
 refine a8 rfl (fun c5 => ?_) fun c5 => ?_
 ·refine au 5 ?_
  obtain ⟨fv, hfv⟩ : ∃ v, (t2 b1 b4 b5)[i]? = some v := ⟨(t2 b1 b4 b5)[i]'(by show i < 3; omega), by simp⟩
  refine bQ ?_
  refine a7 rfl (bc Jv sizeOf41 rfl rfl rfl (by omega) (by first | exact Nat.zero_add _ | rfl)) ?_
  refine ap 6 (aA isAgg41 rfl (aN (by rw [Nat.mul_one]; exact hfv))) ?_
  refine ar 3 (od inferInstance (Qe (R := pt b6 (ac (t2 b1 b4 b5) 41) :: pt b2 (ac (pL ⟨false, 0, 0, 0, 0, 0⟩) 416) :: R) (bva := b1) (bwp := b4) (bat := b5) (bw := b3) (pv := pv) (ps := ps) (pm := pm) (d := d) h hF (by omega) hal hfv rfl)) ?_
  refine a8 rfl (fun c7 => ?_) fun c7 => ?_
  ·have hst : jG fr pg root va i = false := by simpa using c7
   have hres := Qf (by omega) hal hst
   refine au 11 ?_
   refine a7 rfl (qF CU mV rfl TakeL.eq rfl) ?_
   refine aE 3 (aF mV rfl rfl rfl rfl rfl) ?_
   refine ov (bY (.cons (cg CU mV rfl rfl) .nil) ?_)
   rw [hres]
   exact ⟨_, ⟨rfl, rfl⟩, inferInstance⟩
  have hst : jG fr pg root va i = true := Decidable.not_not.1 c7
  refine au 4 ?_
  refine ap 3 (cM rfl rfl) ?_
  refine bZ (i + 1) ?_
  ·exact ⟨by omega, fun m hm => by
    rcases Nat.lt_or_ge m i with q | q
    ·exact hal m q
    rw [show m = i by omega]; exact hst⟩
 obtain rfl : i = 3 := by omega
 have hres := Qg hal
 refine au 10 ?_
 refine a7 rfl (qF CU mV rfl TakeL.eq rfl) ?_
 refine aE 3 (aF mV rfl rfl rfl rfl rfl) ?_
 refine ov (bY (.cons (cg CU mV rfl rfl) .nil) ?_)
 rw [hres]
 exact ⟨_, ⟨rfl, rfl⟩, inferInstance⟩
def m5 (n : Nat) (pg : List Pl) (pa : Nat) (w kind : Int) : Int := if dR n pg pa w kind = 0 then ((pa / 64 : Nat) : Int) else 0
def lF (n : Nat) (pg : List Pl) (pa : Nat) (w kind : Int) : Int := if dR n pg pa w kind = 0 then (cm pg ((pa / 64 : Nat) : Int)).1 else 0
def lG (n : Nat) (pg : List Pl) (pa : Nat) (w kind : Int) : Int := if dR n pg pa w kind = 0 then ((pa % 64 : Nat) : Int) else 0
theorem F3 {n : Nat} {pg : List Pl} {pa : Nat} {w kind : Int} : my n pg pa w kind = [.int .i64 (m5 n pg pa w kind), .int .i64 (lF n pg pa w kind), .int .i64 (lG n pg pa w kind), .bool false] := by
 unfold my m5 lF lG; split <;> rfl
theorem F4 {fr : List aC} {pg : List Pl} {pa : Nat} {w : Int} {x : Nat} (h : cH fr) : cH (jX fr pg pa w x) ∧ (jX fr pg pa w x).length = fr.length := by
 unfold jX; split
 ·exact ⟨xo h, uP⟩
 exact ⟨h, rfl⟩
theorem Qh (w : Nat) : gP w < 32 := by unfold gP; split <;> omega
theorem Qi (w : Nat) : ol w < 32 := by unfold ol; split; decide; exact Qh w
theorem F5 (fr : List aC) (pg : List Pl) (va : Nat) (a : Int) : (kB fr pg va a oy).p = 0 := by unfold kB; split <;> rfl
theorem xz (fr : List aC) (pg : List Pl) (root : Int) (va : Nat) : ∃ k : Nat, (cu fr pg root va).p = (k : Int) ∧ k < 32 := by
 unfold cu
 split
 ·split
  ·simp only [eZ, oz]
   split
   ·exact ⟨_, rfl, Qi _⟩
   exact ⟨0, F5 _ _ _ _, by decide⟩
  exact ⟨0, F5 _ _ _ _, by decide⟩
 simp only [eZ]; split <;> exact ⟨0, rfl, by decide⟩
def nr (s : WS) (kind : Int) (user : Bool) : Bool := mw kind && (ee s.r (j4 kind) && (!user || ee s.r 8)) && s.on
theorem F6 {s : WS} {kind : Int} {user : Bool} : nr s kind user = true ↔ (mw kind = true ∧ ee s.r (j4 kind) = true ∧ (¬ user = true ∨ ee s.r 8 = true)) ∧ s.on = true := by simp [nr]
def jY (s : WS) (va : Nat) : Nat := 64 * s.p.toNat + va % 64
def gJ (fr : List aC) (pg : List Pl) (on : Bool) (root : Int) (user : Bool) (va : Nat) (kind : Int) : Int :=
  if on then (if (cu fr pg root va).fault ≠ 0 then (cu fr pg root va).fault else if nr (cu fr pg root va) kind user then dR fr.length pg (jY (cu fr pg root va) va) 1 kind else 6) else dR fr.length pg va 1 kind
def fe (g : Nat → List Pl → Nat → Int → Int → Int) (fr : List aC) (pg : List Pl) (on : Bool) (root : Int) (user : Bool) (va : Nat) (kind : Int) : Int :=
  if on then (if (cu fr pg root va).fault ≠ 0 then 0 else if nr (cu fr pg root va) kind user then g fr.length pg (jY (cu fr pg root va) va) 1 kind else 0) else g fr.length pg va 1 kind
@[reducible] def uX (fr : List aC) (pg : List Pl) (on : Bool) (root : Int) (user : Bool) (va : Nat) (kind : Int) : List Value :=
  [.int .i64 (fe m5 fr pg on root user va kind), .int .i64 (fe lF fr pg on root user va kind), .int .i64 (fe lG fr pg on root user va kind), .bool false]
theorem F7 {w : Nat} (h : w < 4294967296) : fq .u32 w 63 = ((w % 64 : Nat) : Int) := by
 have := lD (a := w) (b := 63) h (by decide)
 rw [show w &&& 63 = w % 64 from qQ (n := 6)] at this
 exact this
@[reducible] def re (on : Bool) (root : Int) (user : Bool) : List Value := [.bool on, .int .i64 root, .bool user]
theorem xA (pv ps pm d : Nat) (fr : List aC) (pg : List Pl) (h : Pgs pg) (hF : cH fr) (on : Bool) (root : Int) (user : Bool) (va : Nat) (hva : va < 4294967296) (kind : Int) : sQ W0 279 [.pointer (some ⟨pv, 0, none⟩), .agg (re on root user).toArray, .int .u32 va, .int .i64 kind] (eg pv ps pm d fr pg R) (.tuple #[.agg (uX fr pg on root user va kind).toArray, .int .i64 (gJ fr pg on root user va kind)]) (eg pv ps pm d fr pg R) := by
 obtain ⟨s, hs⟩ : ∃ s, cu fr pg root va = s := ⟨_, rfl⟩
 obtain ⟨k, hk, hk32⟩ := xz fr pg root va
 rw [hs] at hk
 simp only [uX, fe, gJ, hs]
 refine ai 2 func279 ntmps279 ?_
 refine ax (aV rfl) fun b1 => ?_
 refine ax (aS ez) fun b2 => ?_
 refine au 11 ?_
 refine a8 rfl (fun c1 => ?_) fun c1 => ?_
 ·refine au 5 ?_
  refine aM (du CN rfl (xp pv ps pm d fr pg h va hva 1 kind)) ?_
  rw [F3]
  refine au 2 ?_
  refine aE 5 (aF cB rfl rfl rfl rfl rfl) ?_
  refine bY (.cons (cg ew cB rfl rfl) (.cons (bK rfl) .nil)) ?_
  refine aR ?_
  have ho : on = false := by simpa using c1
  subst ho; rfl
 refine au 8 ?_
 refine aM (du JF rfl (AN pv ps pm d fr pg h hF root va hva)) ?_
 rw [hs]
 have ho : on = true := by simpa using c1
 subst ho
 refine ax (aS zw) fun b3 => ?_
 refine aE 12 (aF mV rfl rfl rfl rfl rfl) ?_
 refine a8 rfl (fun c4 => ?_) fun c4 => ?_
 ·refine bD ?_
  refine aU [(b3, 0, _)] 5 aT rfl (aa ag) (fun hS => ?_)
  refine av 0 rfl rfl rfl hS (bq ib ez (am aj (am aj (am aj (am bI bj)))) bi) ?_
  refine ah 1 2 hS ?_
  refine bU 3 rfl rfl (aF cB rfl rfl rfl rfl rfl) (aa ag) fun hS => ?_
  refine ah 4 1 hS ?_
  refine aK ?_
  refine au 4 ?_
  refine bY (.cons (cg ew cB rfl rfl) (.cons (bK rfl) .nil)) ?_
  refine aR ?_
  rw [if_pos rfl, if_pos rfl, if_pos rfl, if_pos rfl, if_pos c4, if_pos c4, if_pos c4, if_pos c4]; rfl
 refine au 3 ?_
 refine ap 3 (qF qv je rfl TakeL.eq rfl) ?_
 refine ar 4 (aD call332 rfl (Ep s.on s.r s.p kind user)) ?_
 refine a8 rfl (fun c6 => ?_) fun c6 => ?_
 ·refine au 2 ?_
  refine a7 rfl (bq ib ez (am aj (am aj (am aj (am bI bj)))) bi) ?_
  refine aE 6 (aF cB rfl rfl rfl rfl rfl) ?_
  refine bY (.cons (cg ew cB rfl rfl) (.cons (bK rfl) .nil)) ?_
  refine aR ?_
  have ha : ¬ nr s kind user = true := fun q => c6 (F6.1 q)
  rw [if_pos rfl, if_pos rfl, if_pos rfl, if_pos rfl, if_neg c4, if_neg c4, if_neg c4, if_neg c4, if_neg ha, if_neg ha, if_neg ha, if_neg ha]; rfl
 refine au 4 ?_
 have hpa : jY s va = 64 * k + va % 64 := by rw [jY, hk]; rfl
 rw [show pL s = [.bool s.on, .int .i64 s.r, .int .i64 (k : Int), .int .i64 s.fault, .int .i64 s.root, .int .i64 s.leaf] by rw [← hk]]
 refine au 5 ?_
 refine a7 rfl (iH rfl rfl (by rw [aG (by omega)]; omega : IntKind.wrap .i64 ((k : Int) * 64) = ((64 * k : Nat) : Int))) ?_
 refine a7 rfl (cX cW dk rfl (eA (by omega))) ?_
 refine a7 rfl (aH rfl) (a7 rfl (fJ rfl rfl (F7 hva)) ?_)
 refine a7 rfl (bO rfl rfl (by rw [eA (by omega), hpa]; omega : IntKind.wrap .u32 (((64 * k : Nat) : Int) + ((va % 64 : Nat) : Int)) = ((jY s va : Nat) : Int))) ?_
 refine a7 rfl (aH rfl) ?_
 refine aM (du CN rfl (xp pv ps pm d fr pg h (jY s va) (by omega) 1 kind)) ?_
 rw [F3]
 refine au 2 ?_
 refine aE 4 (aF cB rfl rfl rfl rfl rfl) ?_
 refine bY (.cons (cg ew cB rfl rfl) (.cons (bK rfl) .nil)) ?_
 refine aR ?_
 have ha : nr s kind user = true := F6.2 (Decidable.not_not.1 c6)
 rw [if_pos rfl, if_pos rfl, if_pos rfl, if_pos rfl, if_neg c4, if_neg c4, if_neg c4, if_neg c4, if_pos ha, if_pos ha, if_pos ha, if_pos ha]; rfl
@[reducible] def Qj (x : Nat) : List Value := [.int .u32 x]
end
section
open Go.ChangeShapes Go.WideShapes Go.ChangeAt Go.RowKit
set_option linter.unusedSimpArgs false
set_option linter.unusedVariables false
variable {W : World} {v : Value}
theorem F8 {fuel : Nat} {l : List Value} (h : j0 Tryz.prog W fuel 37 l) : ∃ x : Nat, l = Qj x ∧ x < 4294967296 := by
 obtain ⟨n, rfl, hw⟩ := Ac dk h
 obtain ⟨w, rfl, h'⟩ := OI hw
 exact ⟨w, rfl, h'⟩
end
section
structure Ins where
  op : Nat
  d : Nat
  a : Nat
  b : Nat
  im : Int
deriving DecidableEq
def rf (w : Nat) : Int := if w / 262144 < 8192 then ((w / 262144 : Nat) : Int) else ((w / 262144 : Nat) : Int) - 16384
def g6 (w : Nat) : Ins := ⟨w % 64, w / 64 % 16, w / 1024 % 16, w / 16384 % 16, rf w⟩
def uY : List Nat := [0, 7, 7, 7, 7, 7, 7, 7, 7, 7, 7, 7, 7, 7, 11, 11, 11, 11, 11, 11, 11, 11, 9, 11, 11, 11, 14, 14, 14, 14, 14, 14, 9, 11, 0, 0, 0, 9, 10, 0, 0, 0]
def m6 (op : Nat) : Nat := uY.getD op 0
def oB (op : Nat) : Bool := decide (1 ≤ op ∧ op ≤ 41)
def oC (may : Bool) (n : Nat) : Bool := if may then decide (n < 16) else decide (n = 0)
def fg (op : Nat) (n : Int) : Bool :=
  if op = 18 ∨ op = 19 ∨ op = 20 then decide (0 ≤ n ∧ n ≤ 31)
  else if op = 37 ∨ op = 38 then decide (0 ≤ n ∧ n < 9)
  else if m6 op / 8 % 2 = 0 then decide (n = 0)
  else decide (-8192 ≤ n ∧ n ≤ 8191)
def jH (i : Ins) : Bool := oB i.op && oC (m6 i.op % 2 != 0) i.d && oC (m6 i.op / 2 % 2 != 0) i.a && oC (m6 i.op / 4 % 2 != 0) i.b && fg i.op i.im
theorem F9 (w : Nat) : (g6 w).op < 64 ∧ (g6 w).d < 16 ∧ (g6 w).a < 16 ∧ (g6 w).b < 16 := by
 simp only [g6]; omega
theorem Qk {w : Nat} (h : w < 4294967296) : -8192 ≤ rf w ∧ rf w ≤ 8191 := by
 unfold rf; split <;> omega
theorem xB {i : Ins} (h : jH i = true) : (1 ≤ i.op ∧ i.op ≤ 41) ∧ i.d < 16 ∧ i.a < 16 ∧ i.b < 16 ∧ fg i.op i.im = true := by
 simp only [jH, Bool.and_eq_true] at h
 obtain ⟨⟨⟨⟨h1, h2⟩, h3⟩, h4⟩, h5⟩ := h
 have key : ∀ m n, oC m n = true → n < 16 := fun m n q => by
  unfold oC at q
  split at q
  ·exact of_decide_eq_true q
  have := of_decide_eq_true q; omega
 exact ⟨of_decide_eq_true h1, key _ _ h2, key _ _ h3, key _ _ h4, h5⟩
def u32 (n : Int) : Nat := (n % 4294967296).toNat
theorem dF (x : Int) : u32 x < 4294967296 := by unfold u32; omega
theorem eD (x : Int) : IntKind.wrap .u32 x = ((u32 x : Nat) : Int) := by
 simp only [IntKind.wrap, IntKind.bits, IntKind.signed, u32]; simp; omega
theorem t6 {n : Nat} (h : n < 4294967296) : u32 (n : Int) = n := by unfold u32; omega
def mD (a : Nat) : Int := IntKind.wrap .i32 (a : Int)
def oD (p : Bool) : Nat := if p then 1 else 0
theorem Fa (p : Bool) : oD p < 4294967296 := by cases p <;> decide
def lH (op a b : Nat) : Nat :=
  if op = 1 then u32 ((a : Int) + b)
  else if op = 2 then u32 ((a : Int) - b)
  else if op = 3 then a &&& b
  else if op = 4 then a ||| b
  else if op = 5 then u32 (nW .u32 (a : Int) (b : Int))
  else if op = 6 then u32 (ig .u32 (a : Int) ((b % 32 : Nat) : Int))
  else if op = 7 then a / 2 ^ (b % 32)
  else if op = 8 then u32 (kQ .i32 (mD a) ((b % 32 : Nat) : Int))
  else if op = 9 then oD (decide (mD a < mD b))
  else if op = 10 then oD (decide (a < b))
  else if op = 11 then u32 ((a : Int) * b)
  else if op = 12 then (if b = 0 then 4294967295 else a / b)
  else if b = 0 then a else a % b
theorem kY {p : Prop} [Decidable p] {a b M : Nat} (h1 : p → a < M) (h2 : ¬ p → b < M) : (if p then a else b) < M := by
 by_cases h : p
 ·rw [if_pos h]; exact h1 h
 rw [if_neg h]; exact h2 h
theorem xC {op a b : Nat} (ha : a < 4294967296) (hb : b < 4294967296) : lH op a b < 4294967296 := by
 unfold lH
 refine kY (fun _ => dF _) fun _ => kY (fun _ => dF _) fun _ => kY (fun _ => Nat.lt_of_le_of_lt Nat.and_le_left ha) fun _ => kY (fun _ => Nat.or_lt_two_pow (n := 32) ha hb) fun _ => kY (fun _ => dF _) fun _ => kY (fun _ => dF _) fun _ => kY (fun _ => Nat.lt_of_le_of_lt (Nat.div_le_self _ _) ha) fun _ => kY (fun _ => dF _) fun _ => kY (fun _ => Fa _) fun _ => kY (fun _ => Fa _) fun _ => kY (fun _ => dF _) fun _ => ?_
 refine kY (fun _ => kY (fun _ => by decide) fun _ => Nat.lt_of_le_of_lt (Nat.div_le_self _ _) ha) fun _ => kY (fun _ => ha) fun _ => Nat.lt_of_le_of_lt (Nat.mod_le _ _) ha
def iq (op : Nat) : Nat := if op = 14 then 1 else if op = 21 then 9 else op - 12
def uZ (op a b : Nat) : Bool :=
  if op = 28 then decide (a = b) else if op = 29 then decide (a ≠ b) else if op = 30 then decide (mD a < mD b) else decide (a < b)
def v2 (im : Int) : Nat := u32 (ig .u32 ((u32 im : Nat) : Int) 18)
def dO (l : List Nat) (i : Nat) : Nat := l.getD i 0
def pN (l : List Nat) (b : Nat) : Bool := dO l 5 &&& b != 0
def ec (l : List Nat) : Bool := pN l 4
def rh (l : List Nat) : Bool := dO l 1 != 0 && pN l 1
def nt (l : List Nat) (s fb tb : Nat) : Nat := if pN l fb then s ||| tb else s
def nu (l : List Nat) (s f0 t0 f1 t1 : Nat) : Nat := nt l (nt l s f0 t0) f1 t1
def oE (l : List Nat) (pc cause tval : Nat) : List Nat := ((l.set 2 pc).set 3 cause).set 4 tval
def ri (l : List Nat) (pc cause tval : Nat) : List Nat := (oE l pc cause tval).set 5 (nu l 4 1 2 4 8)
def pO (l : List Nat) : List Nat := l.set 5 (nu l (dO l 5 &&& 10) 2 1 8 4)
def pP (l : List Nat) (id clock n : Nat) : Nat := if n = 7 then u32 clock else if n = 8 then id else dO l n
def kZ (n v : Nat) : Nat := if n = 0 then v &&& 7937 else if n = 5 then v &&& 15 else v
def jZ (l : List Nat) : Bool := dO l 0 &&& 1 != 0
def k0 (l : List Nat) : Nat := dO l 0 / 256 &&& 31
structure CsOk (l : List Nat) : Prop where
  len : l.length = 7
  lt : ∀ x ∈ l, x < 4294967296
theorem CsOk.at_ {l : List Nat} (h : CsOk l) (i : Nat) : dO l i < 4294967296 := by
 unfold dO
 rw [List.getD_eq_getElem?_getD]
 cases hq : l[i]? with
 | none => decide
 | some v => exact h.lt v (List.mem_of_getElem? hq)
theorem CsOk.set {l : List Nat} (h : CsOk l) (i v : Nat) (hv : v < 4294967296) : CsOk (l.set i v) := ⟨by rw [List.length_set, h.len], fun x hx => by
 rcases List.mem_or_eq_of_mem_set hx with q | q
 ·exact h.lt x q
 rw [q]; exact hv⟩
theorem AO {l : List Nat} {s fb tb : Nat} (hs : s < 4294967296) (ht : tb < 4294967296) : nt l s fb tb < 4294967296 := by
 unfold nt; split
 ·exact Nat.or_lt_two_pow (n := 32) hs ht
 exact hs
theorem AP {l : List Nat} {s f0 t0 f1 t1 : Nat} (hs : s < 4294967296) (h0 : t0 < 4294967296) (h1 : t1 < 4294967296) : nu l s f0 t0 f1 t1 < 4294967296 := AO (AO hs h0) h1
theorem CsOk.trap {l : List Nat} (h : CsOk l) {pc cause tval : Nat} (h1 : pc < 4294967296) (h2 : cause < 4294967296) (h3 : tval < 4294967296) : CsOk (oE l pc cause tval) := ((h.set 2 _ h1).set 3 _ h2).set 4 _ h3
theorem CsOk.enter {l : List Nat} (h : CsOk l) {pc cause tval : Nat} (h1 : pc < 4294967296) (h2 : cause < 4294967296) (h3 : tval < 4294967296) : CsOk (ri l pc cause tval) := (h.trap h1 h2 h3).set 5 _ (AP (by decide) (by decide) (by decide))
theorem CsOk.leave {l : List Nat} (h : CsOk l) : CsOk (pO l) := h.set 5 _ (AP (Nat.lt_of_le_of_lt Nat.and_le_left (h.at_ 5)) (by decide) (by decide))
theorem Ql {n v : Nat} (h : v < 4294967296) : kZ n v < 4294967296 := by
 unfold kZ
 split
 ·exact Nat.lt_of_le_of_lt Nat.and_le_left h
 split
 ·exact Nat.lt_of_le_of_lt Nat.and_le_left h
 exact h
theorem Fb {l : List Nat} {id clock n : Nat} (h : CsOk l) (hi : id < 4) : pP l id clock n < 4294967296 := by
 unfold pP
 split
 ·exact dF _
 split
 ·omega
 exact h.at_ n
theorem Qm {l : List Nat} {pc cause tval : Nat} : dO (oE l pc cause tval) 5 = dO l 5 := by
 simp [oE, dO, List.getD_eq_getElem?_getD]
theorem Qn {l : List Nat} {pc cause tval b : Nat} : pN (oE l pc cause tval) b = pN l b := by unfold pN; rw [Qm]
theorem Qo {l : List Nat} {pc cause tval s f0 t0 f1 t1 : Nat} : nu (oE l pc cause tval) s f0 t0 f1 t1 = nu l s f0 t0 f1 t1 := by
 unfold nu nt; simp only [Qn]
structure Eff where
  k : Nat
  pc : Nat
  addr : Nat
  width : Nat
  signed : Bool
  d : Nat
  val : Nat
  cause : Nat
  tval : Nat
deriving DecidableEq
structure Cpu where
  rl : List Nat
  pc : Nat
  cs : List Nat
structure RlOk (l : List Nat) : Prop where
  len : l.length = 16
  lt : ∀ x ∈ l, x < 4294967296
def dh (rl : List Nat) (i : Nat) : Nat := rl.getD i 0
def kC (rl : List Nat) (i v : Nat) : List Nat := if i = 0 then rl else rl.set i v
theorem RlOk.at_ {l : List Nat} (h : RlOk l) (i : Nat) : dh l i < 4294967296 := by
 unfold dh
 rw [List.getD_eq_getElem?_getD]
 cases hq : l[i]? with
 | none => decide
 | some v => exact h.lt v (List.mem_of_getElem? hq)
theorem RlOk.set {l : List Nat} (h : RlOk l) (i v : Nat) (hv : v < 4294967296) : RlOk (kC l i v) := by
 unfold kC; split
 ·exact h
 exact ⟨by rw [List.length_set, h.len], fun x hx => by
  rcases List.mem_or_eq_of_mem_set hx with q | q
  ·exact h.lt x q
  rw [q]; exact hv⟩
structure CpOk (x : Cpu) : Prop where
  r : RlOk x.rl
  pc : x.pc < 4294967296
  cs : CsOk x.cs
def oG (i : Ins) : Nat := u32 (iZ .u32 (iZ .u32 (iZ .u32 (iZ .u32 ((i.op : Nat) : Int) (ig .u32 ((i.d : Nat) : Int) 6)) (ig .u32 ((i.a : Nat) : Int) 10)) (ig .u32 ((i.b : Nat) : Int) 14)) (ig .u32 ((u32 i.im : Nat) : Int) 18))
def t7 : Eff := ⟨0, 0, 0, 0, false, 0, 0, 0, 0⟩
def d8 (pc : Nat) : Nat := u32 ((pc : Int) + 4)
def nv (pc : Nat) (im : Int) : Nat := u32 ((pc : Int) + ((u32 (4 * ((u32 im : Nat) : Int)) : Nat) : Int))
def nx (a : Nat) (im : Int) : Nat := u32 ((a : Int) + ((u32 im : Nat) : Int))
abbrev kD (c t : Nat) : Eff := ⟨3, 0, 0, 0, false, 0, 0, c, t⟩
abbrev kE (x : Cpu) (pc : Nat) : Eff × Cpu := (⟨0, pc, 0, 0, false, 0, 0, 0, 0⟩, { x with pc := pc })
abbrev iO (i : Ins) (x : Cpu) (v pc : Nat) : Eff × Cpu := kE { x with rl := kC x.rl i.d v } pc
def lI (op : Nat) : Nat := if op = 23 ∨ op = 26 then 4 else 1
def t8 (i : Ins) (x : Cpu) : Eff :=
  if nx (dh x.rl i.a) i.im % lI i.op ≠ 0 then kD 2 (nx (dh x.rl i.a) i.im)
  else if i.op = 26 ∨ i.op = 27 then ⟨2, d8 x.pc, nx (dh x.rl i.a) i.im, lI i.op, false, 0, dh x.rl i.b, 0, 0⟩
  else ⟨1, d8 x.pc, nx (dh x.rl i.a) i.im, lI i.op, decide (i.op = 24), i.d, 0, 0, 0⟩
def k7 (op : Nat) : Bool := decide (op = 35 ∨ op = 36 ∨ op = 37 ∨ op = 38 ∨ op = 39 ∨ op = 40)
def rj (op : Nat) : Nat := if op = 35 then 4 else if op = 40 then 5 else 6
def ny (id clock : Nat) (i : Ins) (x : Cpu) : Eff × Cpu :=
  if i.op = 34 then (kD 6 0, x)
  else if i.op = 41 then (kD 8 x.pc, x)
  else if i.op = 36 then kE { x with cs := pO x.cs } (dO x.cs 2)
  else if i.op = 37 then iO i x (pP x.cs id clock i.im.toNat) (d8 x.pc)
  else if i.op = 38 then (if i.im.toNat ≤ 6 then kE { x with cs := x.cs.set i.im.toNat (kZ i.im.toNat (dh x.rl i.a)) } (d8 x.pc) else (kD 1 (oG i), x))
  else (⟨rj i.op, d8 x.pc, 0, 0, false, 0, 0, 0, 0⟩, x)
def mF (id clock : Nat) (i : Ins) (x : Cpu) : Eff × Cpu :=
  if i.op ≤ 13 then iO i x (lH i.op (dh x.rl i.a) (dh x.rl i.b)) (d8 x.pc)
  else if i.op ≤ 21 then iO i x (lH (iq i.op) (dh x.rl i.a) (u32 i.im)) (d8 x.pc)
  else if i.op = 22 then iO i x (v2 i.im) (d8 x.pc)
  else if i.op ≤ 27 then (t8 i x, x)
  else if i.op ≤ 31 then kE x (if uZ i.op (dh x.rl i.a) (dh x.rl i.b) then nv x.pc i.im else d8 x.pc)
  else if i.op ≤ 33 then iO i x (d8 x.pc) (if i.op = 33 then nx (dh x.rl i.a) i.im else nv x.pc i.im)
  else ny id clock i x
def m7 (id clock : Nat) (i : Ins) (x : Cpu) : Eff × Cpu := if k7 i.op && !ec x.cs then (kD 7 (oG i), x) else mF id clock i x
structure EfOk (e : Eff) : Prop where
  pc : e.pc < 4294967296
  addr : e.addr < 4294967296
  val : e.val < 4294967296
  cause : e.cause < 100
  tval : e.tval < 4294967296
  d : e.d < 16
  w : e.width ≤ 4
theorem v3 {k pc addr w d v c t : Nat} {s : Bool} (h1 : pc < 4294967296) (h2 : addr < 4294967296) (h3 : v < 4294967296) (h4 : c < 100) (h5 : t < 4294967296) (h6 : d < 16) (h7 : w ≤ 4) : EfOk ⟨k, pc, addr, w, s, d, v, c, t⟩ := ⟨h1, h2, h3, h4, h5, h6, h7⟩
theorem v4 {c t : Nat} (hc : c < 100) (ht : t < 4294967296) : EfOk (kD c t) := v3 (by decide) (by decide) (by decide) hc ht (by decide) (by decide)
theorem xD {x : Cpu} {pc : Nat} (h : CpOk x) (hp : pc < 4294967296) : EfOk (kE x pc).1 ∧ CpOk (kE x pc).2 := ⟨v3 hp (by decide) (by decide) (by decide) (by decide) (by decide) (by decide), ⟨h.r, hp, h.cs⟩⟩
theorem v5 {i : Ins} {x : Cpu} {v pc : Nat} (h : CpOk x) (hv : v < 4294967296) (hp : pc < 4294967296) : EfOk (iO i x v pc).1 ∧ CpOk (iO i x v pc).2 := xD ⟨h.r.set i.d v hv, h.pc, h.cs⟩ hp
theorem AQ (op : Nat) : lI op ≤ 4 := by unfold lI; split <;> decide
theorem Qp {i : Ins} {x : Cpu} (h : CpOk x) (hi : i.d < 16) : EfOk (t8 i x) := by
 unfold t8
 split; · exact v4 (by decide) (dF _)
 split; · exact v3 (dF _) (dF _) (h.r.at_ _) (by decide) (by decide) (by decide) (AQ _)
 exact v3 (dF _) (dF _) (by decide) (by decide) (by decide) hi (AQ _)
theorem Fc {id clock : Nat} {i : Ins} {x : Cpu} (h : CpOk x) (hd : i.d < 16) (hid : id < 4) : EfOk (m7 id clock i x).1 ∧ CpOk (m7 id clock i x).2 := by
 unfold m7
 split; · exact ⟨v4 (by decide) (dF _), h⟩
 unfold mF
 split; · exact v5 h (xC (h.r.at_ _) (h.r.at_ _)) (dF _)
 split; · exact v5 h (xC (h.r.at_ _) (dF _)) (dF _)
 split; · exact v5 h (dF _) (dF _)
 split; · exact ⟨Qp h hd, h⟩
 split
 ·refine xD h ?_
  split <;> exact dF _
 split
 ·refine v5 h (dF _) ?_
  split <;> exact dF _
 unfold ny
 split; · exact ⟨v4 (by decide) (by decide), h⟩
 split; · exact ⟨v4 (by decide) h.pc, h⟩
 split; · exact xD ⟨h.r, h.pc, h.cs.leave⟩ (h.cs.at_ 2)
 split; · exact v5 h (Fb h.cs hid) (dF _)
 split
 ·split
  ·exact xD ⟨h.r, h.pc, h.cs.set _ _ (Ql (h.r.at_ _))⟩ (dF _)
  exact ⟨v4 (by decide) (dF _), h⟩
 exact ⟨v3 (dF _) (by decide) (by decide) (by decide) (by decide) (by decide) (by decide), h⟩
class Hk (α : Type) extends Inhabited α where
  ky : α → Int
namespace Hp
variable {α : Type} [Hk α]
def us (l : List α) (i : Nat) : Int := Hk.ky (l.getD i default)
theorem us_eq {l : List α} {i : Nat} (h : i < l.length) : us l i = Hk.ky l[i] := by simp [us, List.getD, h]
def swapL (l : List α) (i j : Nat) : List α := (l.set i (l.getD j default)).set j (l.getD i default)
theorem v6 (l : List α) (i j : Nat) : (swapL l i j).length = l.length := by simp [swapL]
theorem oH {l : List α} {i j : Nat} (hi : i < l.length) (hj : j < l.length) (x : Nat) : (swapL l i j).getD x default = if x = i then l.getD j default else if x = j then l.getD i default else l.getD x default := by
 simp only [swapL, List.getD_eq_getElem?_getD, List.getElem?_set, List.length_set]
 by_cases h1 : x = j
 ·subst h1
  by_cases h2 : x = i
  ·subst h2; simp [hj]
  simp [hj, h2]
 have h1' : ¬ j = x := fun h => h1 h.symm
 by_cases h2 : x = i
 ·subst h2; simp [h1', hi]
 have h2' : ¬ i = x := fun h => h2 h.symm
 simp [h1, h1', h2, h2']
theorem j6 {l : List α} {i j : Nat} (hi : i < l.length) (hj : j < l.length) (x : Nat) : us (swapL l i j) x = if x = i then us l j else if x = j then us l i else us l x := by
 unfold us; rw [oH hi hj]; split
 ·rfl
 split <;> rfl
theorem AR {β : Type} : ∀ (l : List β) (i j : Nat) (hi : i < l.length) (hj : j < l.length), ((l.set i l[j]).set j l[i]).Perm l := by
 intro l i j hi hj
 have : ((l.set i l[j]).set j l[i]).Perm l := List.set_set_perm hi hj
 exact this
theorem iP {l : List α} {i j : Nat} (hi : i < l.length) (hj : j < l.length) : (swapL l i j).Perm l := by
 have := AR l i j hi hj
 simpa [swapL, List.getD, hi, hj] using this
def Heap (l : List α) (n : Nat) : Prop := ∀ c, c < n → 0 < c → us l ((c - 1) / 2) ≤ us l c
def hQ (l : List α) (i n : Nat) : Prop := ∀ c, c < n → 0 < c → (c ≠ i → (c - 1) / 2 ≠ i → us l ((c - 1) / 2) ≤ us l c) ∧ ((c - 1) / 2 = i → 0 < i → us l ((i - 1) / 2) ≤ us l c)
def Up (l : List α) (j n : Nat) : Prop := ∀ c, c < n → 0 < c → (c ≠ j → us l ((c - 1) / 2) ≤ us l c) ∧ ((c - 1) / 2 = j → 0 < j → us l ((j - 1) / 2) ≤ us l c)
theorem AS {l : List α} {i j n : Nat} (h : hQ l i n) (hn : n ≤ l.length) (hj : j < n) (hc : (j - 1) / 2 = i) (h0 : 0 < j) (hlt : us l j < us l i)
  (hmin : ∀ c, c < n → 0 < c → (c - 1) / 2 = i → us l j ≤ us l c) : hQ (swapL l i j) j n ∧ us (swapL l i j) ((j - 1) / 2) ≤ us (swapL l i j) j := by
 have hij : i < j := by omega
 have sw := j6 (l := l) (i := i) (j := j) (by omega) (by omega)
 refine ⟨fun c hcn hc0 => ⟨fun h1 h2 => ?_, fun h1 h2 => ?_⟩, ?_⟩
 ·rw [sw, sw]
  by_cases e1 : c = i
  ·subst e1
   have := (h j hj h0).2 hc (by omega)
   rw [if_neg (by omega), if_neg (by omega), if_pos rfl]; exact this
  by_cases e2 : (c - 1) / 2 = i
  ·rw [if_pos e2, if_neg e1, if_neg h1]; exact hmin c hcn hc0 e2
  rw [if_neg e2, if_neg h2, if_neg e1, if_neg h1]; exact (h c hcn hc0).1 e1 e2
 ·rw [hc, sw, sw, if_pos rfl, if_neg (by omega), if_neg (by omega)]
  rw [← h1]; exact (h c hcn hc0).1 (by omega) (by omega)
 rw [hc, sw, sw, if_pos rfl, if_neg (by omega), if_pos rfl]; omega
theorem v7 {l : List α} {i n : Nat} (h : hQ l i n) (hmin : ∀ c, c < n → 0 < c → (c - 1) / 2 = i → us l i ≤ us l c) (hp : 0 < i → us l ((i - 1) / 2) ≤ us l i) : Heap l n := fun c hc h0 => by
 by_cases e1 : (c - 1) / 2 = i
 ·rw [e1]; exact hmin c hc h0 e1
 by_cases e2 : c = i
 ·subst e2; exact hp h0
 exact (h c hc h0).1 e2 e1
theorem xE {l : List α} {i n : Nat} (h : hQ l i n) (hmin : ∀ c, c < n → 0 < c → (c - 1) / 2 = i → us l i ≤ us l c) : Up l i n := fun c hc h0 => ⟨fun e => by
 by_cases e1 : (c - 1) / 2 = i
 ·rw [e1]; exact hmin c hc h0 e1
 exact (h c hc h0).1 e e1, (h c hc h0).2⟩
theorem AT {l : List α} {j n : Nat} (h : Up l j n) (hn : n ≤ l.length) (hj : j < n) (h0 : 0 < j) (hlt : us l j < us l ((j - 1) / 2)) : Up (swapL l ((j - 1) / 2) j) ((j - 1) / 2) n := by
 have sw := j6 (l := l) (i := (j - 1) / 2) (j := j) (by omega) (by omega)
 intro c hc hc0
 refine ⟨fun h1 => ?_, fun h1 h2 => ?_⟩
 ·rw [sw, sw]
  by_cases e1 : c = j
  ·subst e1; rw [if_pos rfl, if_neg (by omega), if_pos rfl]; omega
  by_cases e2 : (c - 1) / 2 = (j - 1) / 2
  ·rw [if_pos e2, if_neg (by omega), if_neg e1]
   have := (h c hc hc0).1 e1; rw [e2] at this; omega
  by_cases e3 : (c - 1) / 2 = j
  ·rw [if_neg e2, if_pos e3, if_neg h1, if_neg e1]; exact (h c hc hc0).2 e3 h0
  rw [if_neg e2, if_neg e3, if_neg h1, if_neg e1]; exact (h c hc hc0).1 e1
 rw [sw, sw, if_neg (by omega), if_neg (by omega)]
 have hp := (h ((j - 1) / 2) (by omega) h2).1 (by omega)
 by_cases e1 : c = j
 ·subst e1; rw [if_neg (by omega), if_pos rfl]; exact hp
 rw [if_neg (by omega), if_neg e1]
 have := (h c hc hc0).1 e1; rw [h1] at this; omega
theorem v8 {l : List α} {j n : Nat} (h : Up l j n) (hp : 0 < j → us l ((j - 1) / 2) ≤ us l j) : Heap l n := fun c hc h0 => by
 by_cases e : c = j
 ·subst e; exact hp h0
 exact (h c hc h0).1 e
theorem heap_min {l : List α} {n : Nat} (h : Heap l n) : ∀ c, c < n → us l 0 ≤ us l c := by
 intro c
 induction c using Nat.strongRecOn with
 | _ c ih =>
  intro hc
  by_cases h0 : c = 0
  ·subst h0; omega
  have := h c hc (by omega)
  have := ih ((c - 1) / 2) (by omega) (by omega)
  omega
theorem xF {l : List α} {i : Nat} {x : α} {n : Nat} (h : Heap l n) (hi : i < l.length) : hQ (l.set i x) i n := fun c hc h0 => by
 have e : ∀ y, y ≠ i → us (l.set i x) y = us l y := fun y hy => by
  unfold us; simp only [List.getD_eq_getElem?_getD]; rw [List.getElem?_set_ne (by omega)]
 refine ⟨fun h1 h2 => ?_, fun h1 h2 => ?_⟩
 ·rw [e _ h1, e _ h2]; exact h c hc h0
 rw [e _ (by omega), e _ (by omega)]
 have k1 := h c hc h0
 have k2 := h i (by omega) h2
 rw [h1] at k1; omega
theorem v9 {l l' : List α} {n : Nat} (h : ∀ i, i < n → l.getD i default = l'.getD i default) {i : Nat} (hi : i < n) : us l i = us l' i := by unfold us; rw [h i hi]
theorem AU {l l' : List α} {n : Nat} (h : ∀ i, i < n → l.getD i default = l'.getD i default) (k : Heap l n) : Heap l' n := fun c hc h0 => by
 rw [← v9 h hc, ← v9 h (i := (c - 1) / 2) (by omega)]; exact k c hc h0
theorem AV {l : List α} {n m : Nat} (h : Heap l n) (k : m ≤ n) : Heap l m := fun c hc h0 => h c (by omega) h0
structure Down (its l : List α) (i0 n : Nat) (moved : Bool) : Prop where
  perm : l.Perm its
  tail : ∀ x, n ≤ x → l.getD x default = its.getD x default
  no : moved = false → l = its ∧ ∀ c, c < n → 0 < c → (c - 1) / 2 = i0 → us its i0 ≤ us its c
  yes : moved = true → Heap l n
theorem vc {l its : List α} {i i0 n : Nat} (hp : l.Perm its) (hi : i0 ≤ i) (hH : hQ l i n) (ht : ∀ x, n ≤ x → l.getD x default = its.getD x default) (h0 : i = i0 → l = its)
  (hg : i0 < i → us l ((i - 1) / 2) ≤ us l i) (hmin : ∀ c, c < n → 0 < c → (c - 1) / 2 = i → us l i ≤ us l c) : Down its l i0 n (decide (i0 < i)) :=
 ⟨hp, ht, fun h => by
  have : i = i0 := by simp at h; omega
  subst this
  obtain rfl := h0 rfl
  exact ⟨rfl, hmin⟩, fun h => by
  have : i0 < i := by simpa using h
  exact v7 hH hmin fun _ => hg this⟩
theorem vd {l l0 : List α} {i j n : Nat} (hi : i < n) (hj : j < n) (hn : n ≤ l.length) (h : ∀ x, n ≤ x → l.getD x default = l0.getD x default) : ∀ x, n ≤ x → (swapL l i j).getD x default = l0.getD x default := fun x hx => by
 rw [oH (by omega) (by omega), if_neg (by omega), if_neg (by omega)]; exact h x hx
end Hp
instance a1P : Hk Nat := { ky := fun n => (n : Int) }
abbrev Po := List (Int × Bool)
def cD (po : Po) (f : Nat) : Int × Bool := po.getD f (-1, true)
def bP (po : Po) (w : Nat) : List Nat := (List.range po.length).filter fun f => cD po f == ((w : Int), false)
theorem ir {po : Po} {f : Nat} {x : Int × Bool} (hf : f < po.length) (g : Nat) : cD (po.set f x) g = if g = f then x else cD po g := by
 simp only [cD, List.getD_eq_getElem?_getD, List.getElem?_set]
 by_cases h : f = g
 ·subst h; simp [hf]
 simp [h, show ¬ g = f from fun e => h e.symm]
theorem jr {po : Po} {w f : Nat} : f ∈ bP po w ↔ f < po.length ∧ cD po f = ((w : Int), false) := by
 rw [bP, List.mem_filter, List.mem_range, beq_iff_eq]
theorem xG (po : Po) (w : Nat) : (bP po w).Pairwise (· < ·) := List.pairwise_lt_range.filter _
theorem Fe (po : Po) (w : Nat) : (bP po w).Nodup := (xG po w).imp (fun h e => by omega)
theorem Qq {po : Po} {w : Nat} {l : List Nat} (hn : l.Nodup) (h : ∀ f, f ∈ l ↔ f < po.length ∧ cD po f = ((w : Int), false)) : l.Perm (bP po w) :=
 (List.perm_ext_iff_of_nodup hn (Fe po w)).2 fun f => by rw [h, jr]
theorem Qr {po : Po} {f : Nat} {u : Int} (hf : f < po.length) (w : Nat) : bP (po.set f (u, true)) w = (bP po w).filter (· != f) := by
 simp only [bP, List.length_set, List.filter_filter]
 apply List.filter_congr
 intro g _
 rw [ir hf]
 by_cases h : g = f
 ·subst h; simp
 simp [h]
theorem Qs {po : Po} {f : Nat} {w : Nat} (hf : f < po.length) (h : cD po f ≠ ((w : Int), false)) : (bP po w ++ [f]).Perm (bP (po.set f ((w : Int), false)) w) := by
 refine Qq ?_ fun g => ?_
 ·rw [List.nodup_append]
  refine ⟨Fe po w, by simp, fun a ha b hb e => ?_⟩
  rw [List.mem_singleton] at hb; subst hb; subst e
  exact h (jr.1 ha).2
 rw [List.mem_append, List.mem_singleton, jr, List.length_set, ir hf]
 by_cases e : g = f
 ·subst e; simp [hf]
 simp [e]
theorem AW {po : Po} {f : Nat} {x : Int × Bool} {w : Nat} (hf : f < po.length) (h1 : cD po f ≠ ((w : Int), false)) (h2 : x ≠ ((w : Int), false)) : bP (po.set f x) w = bP po w := by
 simp only [bP, List.length_set]
 apply List.filter_congr
 intro g _
 rw [ir hf]
 by_cases h : g = f
 ·subst h; rw [if_pos rfl, Bool.eq_iff_iff, beq_iff_eq, beq_iff_eq]; exact ⟨fun e => absurd e h2, fun e => absurd e h1⟩
 rw [if_neg h]
theorem AX {po : Po} {w x : Nat} {l : List Nat} (hp : (l ++ [x]).Perm (bP po w)) (hm : ∀ y ∈ bP po w, x ≤ y) : bP po w = x :: bP (po.set x ((w : Int), true)) w := by
 have hx : x ∈ bP po w := hp.mem_iff.1 (by simp)
 have hs := xG po w
 rw [Qr (jr.1 hx).1]
 generalize bP po w = m at hx hm hs
 cases m with
 | nil => cases hx
 | cons y t =>
  rw [List.pairwise_cons] at hs
  have : x = y := by
   rcases List.mem_cons.1 hx with e | e
   ·exact e
   have := hs.1 x e
   have := hm y (by simp)
   omega
  subst this
  congr 1
  rw [List.filter_cons, if_neg (by simp)]
  refine (List.filter_eq_self.2 fun z hz => ?_).symm
  have := hs.1 z hz
  simp; omega
theorem Qt {po : Po} {w x : Nat} {l : List Nat} (hp : (l ++ [x]).Perm (bP po w)) (hm : ∀ y ∈ bP po w, x ≤ y) : l.Perm (bP (po.set x ((w : Int), true)) w) := by
 have h := AX hp hm
 rw [h] at hp
 exact ((List.perm_append_comm (l₁ := [x]) (l₂ := l)).trans hp).cons_inv
structure LsOk (po : Po) (Ls : List (List Nat)) : Prop where
  len : Ls.length = 16
  row : ∀ w, w < 16 → (Ls.getD w []).Perm (bP po w) ∧ Hp.Heap (Ls.getD w []) (Ls.getD w []).length
structure PoOk (po : Po) : Prop where
  len : po.length ≤ 32
  who : ∀ f, f < po.length → -1 ≤ (cD po f).1 ∧ (cD po f).1 < 16 ∧ ((cD po f).1 = -1 → (cD po f).2 = false)
theorem PoOk.set {po : Po} (h : PoOk po) {f : Nat} {x : Int × Bool} (hf : f < po.length) (h1 : 0 ≤ x.1) (h2 : x.1 < 16) : PoOk (po.set f x) := ⟨by rw [List.length_set]; exact h.len, fun g hg => by
 rw [List.length_set] at hg
 rw [ir hf]
 split
 ·exact ⟨by omega, h2, fun e => by omega⟩
 exact h.who g hg⟩
theorem Qu {po : Po} (h : PoOk po) (w : Nat) : (bP po w).length ≤ 32 := by
 have := List.length_filter_le (fun f => cD po f == ((w : Int), false)) (List.range po.length)
 rw [List.length_range] at this
 have := h.len
 unfold bP; omega
theorem LsOk.rlen {po : Po} {Ls : List (List Nat)} (h : LsOk po Ls) (hp : PoOk po) {w : Nat} (hw : w < 16) : (Ls.getD w []).length ≤ 32 := by
 rw [(h.row w hw).1.length_eq]; exact Qu hp w
theorem LsOk.set {po po' : Po} {Ls : List (List Nat)} (h : LsOk po Ls) {w : Nat} (hw : w < 16) {l : List Nat} (h1 : l.Perm (bP po' w)) (h2 : Hp.Heap l l.length) (h3 : ∀ u, u < 16 → u ≠ w → bP po' u = bP po u) : LsOk po' (Ls.set w l) := ⟨by rw [List.length_set]; exact h.len, fun u hu => by
 have e : (Ls.set w l).getD u [] = if u = w then l else Ls.getD u [] := by
  simp only [List.getD_eq_getElem?_getD, List.getElem?_set]
  by_cases k : w = u
  ·subst k; simp [h.len, hw]
  simp [k, show ¬ u = w from fun e => k e.symm]
 rw [e]
 split
 ·rename_i k; subst k; exact ⟨h1, h2⟩
 rename_i k; rw [h3 u hu k]; exact h.row u hu⟩
theorem LsOk.new (n : Nat) : LsOk (List.replicate n (-1, false)) (List.replicate 16 []) := ⟨by simp, fun w hw => by
 have e : bP (List.replicate n (-1, false)) w = [] := by
  rw [List.eq_nil_iff_forall_not_mem]
  intro f hf
  have := (jr.1 hf)
  rw [List.length_replicate] at this
  have h2 := this.2
  simp [cD, List.getD, this.1] at h2
 rw [e, show (List.replicate 16 ([] : List Nat)).getD w [] = [] by rw [List.getD_eq_getElem?_getD, List.getElem?_replicate]; split <;> rfl]
 exact ⟨List.Perm.refl _, fun c hc _ => absurd hc (Nat.not_lt_zero _)⟩⟩
structure Im where
  fr : List aC
  po : Po
  pg : List Pl
def g7 (f : Nat) : List Nat → Nat → List aC → List aC
  | [], _, fr => fr
  | x :: t, k, fr => g7 f t (k + 1) (eK fr f (4 * k : Nat) 4 x)
theorem AY (f x : Nat) : ∀ (l : List Nat) (k : Nat) (fr : List aC), g7 f (l ++ [x]) k fr = eK (g7 f l k fr) f (4 * (k + l.length) : Nat) 4 x
 | [], k, fr => by simp [g7]
 | y :: t, k, fr => by
  rw [List.cons_append, g7, g7, AY f x t (k + 1)]
  congr 3; simp only [List.length_cons]; omega
theorem rk {f : Nat} : ∀ {l : List Nat} {k : Nat} {fr : List aC}, cH fr → cH (g7 f l k fr) ∧ (g7 f l k fr).length = fr.length
 | [], _, _, h => ⟨h, rfl⟩
 | x :: t, k, fr, h => by
  obtain ⟨h1, h2⟩ := rk (f := f) (l := t) (k := k + 1) (xo (f := f) (off := (4 * k : Nat)) (w := 4) (v := x) h)
  exact ⟨h1, by rw [g7, h2, uP]⟩
def dE (words : List Nat) (i : Nat) : List Nat := (words.drop (16 * i)).take 16
def iQ (who : Nat) (words : List Nat) (x : Im) (i : Nat) : Im :=
  match bP x.po who with
  | f :: _ => ⟨g7 f (dE words i) 0 x.fr, x.po.set f ((who : Int), true), dJ x.pg i ((f : Int), 3)⟩
  | [] => x
def d6 (who : Nat) (words : List Nat) : Nat → Im → Im
  | 0, x => x
  | n + 1, x => iQ who words (d6 who words n x) n
structure ImOk (x : Im) : Prop where
  fr : cH x.fr
  po : PoOk x.po
  pg : Pgs x.pg
  len : x.po.length = x.fr.length
theorem Qv {who i : Nat} {words : List Nat} {x : Im} (h : ImOk x) (hw : who < 16) : ImOk (iQ who words x i) := by
 unfold iQ
 cases e : bP x.po who with
 | nil => exact h
 | cons f t =>
  have hf := jr.1 (show f ∈ bP x.po who by rw [e]; simp)
  obtain ⟨k1, k2⟩ := rk (f := f) (l := dE words i) (k := 0) h.fr
  exact ⟨k1, h.po.set hf.1 (by simp) (by simp; omega), qX h.pg, by rw [List.length_set, k2]; exact h.len⟩
theorem rn {who : Nat} {words : List Nat} (hw : who < 16) : ∀ {n : Nat} {x : Im}, ImOk x → ImOk (d6 who words n x)
 | 0, _, h => h
 | n + 1, _, h => Qv (rn hw h) hw
theorem Qw {who i : Nat} {words : List Nat} {x : Im} : (bP (iQ who words x i).po who).length = (bP x.po who).length - 1 := by
 unfold iQ
 cases e : bP x.po who with
 | nil => simp [e]
 | cons f t =>
  have hf := jr.1 (show f ∈ bP x.po who by rw [e]; simp)
  dsimp only
  have hm : ∀ y ∈ bP x.po who, f ≤ y := fun y hy => by
   have := xG x.po who
   rw [e] at hy this
   rw [List.pairwise_cons] at this
   rcases List.mem_cons.1 hy with rfl | k
   ·exact Nat.le_refl _
   exact Nat.le_of_lt (this.1 y k)
  have := AX (l := t) (by rw [e]; exact List.perm_append_comm (l₁ := t) (l₂ := [f])) hm
  rw [e] at this
  have := (List.cons.inj this).2
  rw [← this, List.length_cons]; omega
theorem xH {who : Nat} {words : List Nat} {x : Im} : ∀ n : Nat, (bP (d6 who words n x).po who).length = (bP x.po who).length - n
 | 0 => rfl
 | n + 1 => by rw [d6, Qw, xH n]; omega
def oI (pg : List Pl) (n m : Nat) : Prop := ∀ i, n ≤ i → i < m → aP pg (i : Nat) = false
theorem xI {who : Nat} {words : List Nat} {x : Im} (h : oI x.pg 0 8) (hl : x.pg.length = 12) : ∀ n : Nat, n ≤ 8 → oI (d6 who words n x).pg n 8 ∧ (d6 who words n x).pg.length = 12
 | 0, _ => ⟨h, hl⟩
 | n + 1, hn => by
  obtain ⟨k1, k2⟩ := xI h hl n (by omega)
  rw [d6]
  generalize d6 who words n x = y at k1 k2
  unfold iQ
  cases e : bP y.po who with
  | nil => exact ⟨fun i h1 h2 => k1 i (by omega) h2, k2⟩
  | cons f t =>
   dsimp only
   refine ⟨fun i h1 h2 => ?_, ?_⟩
   ·have := k1 i (by omega) h2
    unfold dJ
    split
    ·simp only [aP, eL, Int.toNat_natCast, List.getD_eq_getElem?_getD] at this ⊢
     rw [List.getElem?_set_ne (by omega)]; exact this
    exact this
   unfold dJ; split
   ·rw [List.length_set]; exact k2
   exact k2
end
section
open Go.RowKit
def l5 (T E : TypeId) (sz : Nat) {α : Type} (f : α → List Value) (o b : Nat) (x : List α × List Value) : HP := chk (fun C => o < x.2.length ∧ ∃ a c, C = [pt b (ac (x.2.set o (.slice a x.1.length c)) T), osl E sz (.slice a x.1.length c) (x.1.flatMap f)])
theorem dP {l : List Value} {o : Nat} {v : Value} (h : o < l.length) : (l.set o v)[o]? = some v := by simp [h]
theorem set_set {l : List Value} {o : Nat} {v u : Value} : (l.set o v).set o u = l.set o u := List.set_set ..
section
variable {P : Program} {W0 : World} {N : FSz} {K : Act → World → Prop} {e : aW} {R A B R1 R2 : List HP} {T E : TypeId} {sz o b n : Nat} {α : Type} {f : α → List Value} {its : List α} {cs cs' : List Value} {fn : FuncId} {args : List Value} {Post : Value → List HP → Prop}
theorem pQ (h : ∀ a c, o < cs.length → bN P W0 fn args (pt b (ac (cs.set o (.slice a its.length c)) T) :: osl E sz (.slice a its.length c) (its.flatMap f) :: R) Post) : bN P W0 fn args (l5 T E sz f o b (its, cs) :: R) Post :=
 qM fun C hC => by obtain ⟨ho, a, c, rfl⟩ := hC; exact h a c ho
theorem ve [hk : Tk (l5 T E sz f o) b A (its, cs) R] (h : ∀ a c, o < cs.length → az W0 N K e (pt b (ac (cs.set o (.slice a its.length c)) T) :: osl E sz (.slice a its.length c) (its.flatMap f) :: R)) : az W0 N K e A :=
 fK (r := l5 T E sz f o) (b := b) (mt fun C hC => by obtain ⟨ho, a, c, rfl⟩ := hC; exact h a c ho)
theorem l6 {a : Option Addr} {c : Nat} {xs : List Value} [h1 : Tk pt b A (ac cs' T) R1] [h2 : Tk (osl E sz) (.slice a n c) R1 xs R2] (hx : xs = its.flatMap f) (hc : cs' = cs.set o (.slice a n c)) (ho : o < cs.length) (hn : n = its.length) [k : Ent R2 B] : Ent A (l5 T E sz f o b (its, cs) :: B) := by
 subst hn; subst hc; subst hx
 exact (Ent.ofPerm (h1.perm.trans (h2.perm.cons _))).trans ((Ent.cons (Ent.cons k)).trans (fC (R := B) (C := [_, _]) ⟨ho, a, c, rfl⟩))
theorem nz (hf : ∀ x, (f x).length = sz) (h0 : its ≠ []) (hz : 0 < sz) (h : ∀ g c sp, o < cs.length → its.length ≤ c → c ≤ maxLen → (its.flatMap f ++ sp).length = c * sz → bN P W0 fn args (pt b (ac (cs.set o (.slice (some ⟨g, 0, none⟩) its.length c)) T) :: pt g (ac (its.flatMap f ++ sp) E) :: R) Post) : bN P W0 fn args (l5 T E sz f o b (its, cs) :: R) Post :=
 pQ fun a c ho => kU (List.Perm.swap _ _ _) (uG (fun h1 h2 => by
   have := cz hf its
   rw [h2] at this
   have h3 : its.length = 0 := by
    rcases Nat.mul_eq_zero.1 this.symm with k | k
    ·exact k
    omega
   exact absurd (List.eq_nil_of_length_eq_zero h3) h0)
  (fun g n cap sp h1 h2 h3 h4 h5 => by
   cases h1
   exact kU (List.Perm.swap _ _ _) (h g _ sp ho h2 h3 h5)))
theorem iR {g c : Nat} {xs sp : List Value} [h1 : Tk pt b A (ac cs' T) R1] [h2 : Tk pt g R1 (ac (xs ++ sp) E) R2] (hf : ∀ x, (f x).length = sz) (hx : xs = its.flatMap f) (hcs : cs' = cs.set o (.slice (some ⟨g, 0, none⟩) n c)) (ho : o < cs.length) (hn : n = its.length) (hc : n ≤ c) (hm : c ≤ maxLen) (hl : (xs ++ sp).length = c * sz) [k : Ent R2 B] : Ent A (l5 T E sz f o b (its, cs) :: B) := by
 subst hn; subst hx; subst hcs
 have e : Ent R1 (osl E sz (.slice (some ⟨g, 0, none⟩) its.length c) (its.flatMap f) :: B) := eB hc hm (cz hf its) hl
 exact (Ent.ofPerm h1.perm).trans ((Ent.cons e).trans (fC (R := B) (C := [_, _]) ⟨ho, _, c, rfl⟩))
theorem vf [hk : Tk (l5 T E sz f o) b A (its, cs) R] {i : Nat} {v : Value} (hi : i ≠ o) (h : cs[i]? = some v) : jk (aO W0 A) b i v := fun w (hO : Own W0 w A) => by
 obtain ⟨C, ⟨ho, a, c, rfl⟩, hO'⟩ := (hO.tk (r := l5 T E sz f o) (b := b)).chk
 have h1 : Own W0 w (pt b (ac (cs.set o (.slice a its.length c)) T) :: (osl E sz (.slice a its.length c) (its.flatMap f) :: R)) := hO'
 have h2 : jk (aO W0 (pt b (ac (cs.set o (.slice a its.length c)) T) :: (osl E sz (.slice a its.length c) (its.flatMap f) :: R))) b i v := aN (by rw [List.getElem?_set_ne (by omega)]; exact h)
 exact h2 w h1
theorem AZ [hk : Tk (l5 T E sz f o) b A (its, cs) R] {i : Nat} {v : Value} (hi : i ≠ o) (h : cs[i]? = some v) : bG (aO W0 A) b i [v] := fun j u hj => by
 match j, hj with
 | 0, hj => rw [← Option.some.inj hj]; exact vf (o := o) (f := f) (T := T) (E := E) (sz := sz) hi h
 | j + 1, hj => cases hj
end
theorem Qx {α : Type} (f : α → Value) (l : List α) : (l.flatMap fun x => [f x]) = l.map f := by
 induction l with
 | nil => rfl
 | cons x l ih => rw [List.flatMap_cons, ih]; rfl
theorem Qy {α : Type} {f : α → List Value} {k : Nat} (hf : ∀ x, (f x).length = k) (its : List α) (sp : List Value) (i : Nat) (hi : i < its.length) : i * k + k ≤ (its.flatMap f ++ sp).length := by
 have := Nat.mul_le_mul_right k (show i + 1 ≤ its.length by omega)
 rw [Nat.succ_mul] at this
 rw [List.length_append, cz hf]; omega
structure HpO (W0 : World) (α : Type) [Hk α] where
  T : TypeId
  p : Value
  el : α → Value
  H : List α → HP
  fL : FuncId
  fE : FuncId
  fS : FuncId
  fU : FuncId
  fO : FuncId
  mL : ∀ w, (method (Tryz.prog.types.size + Made.depth) T p "Len").run Tryz.prog w = .ok (fL, p) w
  mE : ∀ w, (method (Tryz.prog.types.size + Made.depth) T p "Less").run Tryz.prog w = .ok (fE, p) w
  mS : ∀ w, (method (Tryz.prog.types.size + Made.depth) T p "Swap").run Tryz.prog w = .ok (fS, p) w
  mU : ∀ w, (method (Tryz.prog.types.size + Made.depth) T p "Push").run Tryz.prog w = .ok (fU, p) w
  mO : ∀ w, (method (Tryz.prog.types.size + Made.depth) T p "Pop").run Tryz.prog w = .ok (fO, p) w
  cL : ∀ args w, (callFunc fL args).run Tryz.prog w = .ok (.enter fL args) w
  cE : ∀ args w, (callFunc fE args).run Tryz.prog w = .ok (.enter fE args) w
  cS : ∀ args w, (callFunc fS args).run Tryz.prog w = .ok (.enter fS args) w
  cU : ∀ args w, (callFunc fU args).run Tryz.prog w = .ok (.enter fU args) w
  cO : ∀ args w, (callFunc fO args).run Tryz.prog w = .ok (.enter fO args) w
  sL : ∀ R l, bN Tryz.prog W0 fL [p] (kH 0 (H l) :: R) (fun v B => v = .int .i64 (l.length : Nat) ∧ B = kH 0 (H l) :: R)
  sE : ∀ R l (i j : Nat), i < l.length → j < l.length → bN Tryz.prog W0 fE [p, .int .i64 i, .int .i64 j] (kH 0 (H l) :: R) (fun v B => v = .bool (decide (Hp.us l i < Hp.us l j)) ∧ B = kH 0 (H l) :: R)
  sS : ∀ R l (i j : Nat), i < l.length → j < l.length → bN Tryz.prog W0 fS [p, .int .i64 i, .int .i64 j] (kH 0 (H l) :: R) (fun v B => v = .tuple #[] ∧ B = kH 0 (H (Hp.swapL l i j)) :: R)
  sU : ∀ R l x, l.length < 1000 → bN Tryz.prog W0 fU [p, el x] (kH 0 (H l) :: R) (fun v B => v = .tuple #[] ∧ B = kH 0 (H (l ++ [x])) :: R)
  sO : ∀ R l x, bN Tryz.prog W0 fO [p] (kH 0 (H (l ++ [x])) :: R) (fun v B => v = el x ∧ B = kH 0 (H l) :: R)
namespace Hp
variable {W0 : World} {α : Type} [Hk α] (o : HpO W0 α)
def iv : Value := .iface o.T o.p
theorem B1 {j : Nat} (h : j < 1000) : IntKind.wrap .i64 (Int.tdiv ((j : Int) - 1) 2) = (((j - 1) / 2 : Nat) : Int) := by
 by_cases h0 : j = 0
 ·subst h0; decide
 obtain ⟨k, rfl⟩ : ∃ k, j = k + 1 := ⟨j - 1, by omega⟩
 have e : ((k + 1 : Nat) : Int) - 1 = (k : Int) := by omega
 rw [e, Int.tdiv_eq_ediv_of_nonneg (by omega), aG (by omega)]; simp
theorem t9 (R : List HP) (its : List α) (j n : Nat) (hn : n ≤ its.length) (hN : n < 1000) (hj : j < n) (hU : Up its j n) : sP W0 137 [iv o, .int .i64 j] (kH 0 (o.H its) :: R) (fun v B => v = .tuple #[] ∧ ∃ its', B = kH 0 (o.H its') :: R ∧ its'.Perm its ∧ Heap its' n ∧ ∀ x, n ≤ x → its'.getD x default = its.getD x default) := by
 refine gY func137 ntmps137 rfl rfl ?_
 refine jS ?_
 refine cY (fun X : List α × Nat => X.1.Perm its ∧ X.2 < n ∧ Up X.1 X.2 n ∧ ∀ x, n ≤ x → X.1.getD x default = its.getD x default) (fun X => [(0, iv o), (1, .int .i64 X.2)]) (fun X => kH 0 (o.H X.1) :: R) (fun X => X.2) (its, j) ?_ ?_
 ·exact ⟨List.Perm.refl _, hj, hU, fun _ _ => rfl⟩
 intro ⟨l, j⟩ ⟨hp, hj, hU, ht⟩
 have hlen := hp.length_eq
 simp only at hj hU ht hp hlen ⊢
 refine au 4 ?_
 refine a7 rfl (cZ rfl rfl (by first | exact aG (by omega) | rfl)) ?_
 refine ap 10 (qE rfl rfl (by decide) (B1 (by omega))) ?_
 refine bB rfl rfl rfl (fun g1_4 => ?_) fun g1_4 => ?_
 ·refine au 13 ?_
  refine bT (.inr rfl) .nil ?_
  exact ⟨_, ⟨rfl, l, rfl, hp, v8 hU (by intro _; first | omega | (simp at c1; omega)), ht⟩, inferInstance⟩
 refine au 6 ?_
 refine ar 5 (e8 rfl o.mE o.cE rfl (o.sE _ l j ((j - 1) / 2) (by omega) (by omega))) ?_
 refine a8 rfl (fun c1 => ?_) fun c1 => ?_
 ·refine au 5 ?_
  refine bT (.inr rfl) .nil ?_
  exact ⟨_, ⟨rfl, l, rfl, hp, v8 hU (by intro _; first | omega | (simp at c1; omega)), ht⟩, inferInstance⟩
 replace c1 : us l j < us l ((j - 1) / 2) := by simpa using c1
 refine au 7 ?_
 refine ar 8 (e8 rfl o.mS o.cS rfl (o.sS _ l ((j - 1) / 2) j (by omega) (by omega))) ?_
 refine bZ (swapL l ((j - 1) / 2) j, (j - 1) / 2) ?_ (hμ := ?_)
 ·exact ⟨(iP (by omega) (by omega)).trans hp, by show (j - 1) / 2 < n; omega, AT hU (by omega) hj (by omega) c1, vd (by omega) hj (by omega) ht⟩
 show (j - 1) / 2 < j; omega
theorem tc (R : List HP) (its : List α) (i0 n : Nat) (hn : n ≤ its.length) (hN : n < 1000) (hi : i0 ≤ n) (hH : hQ its i0 n) : sP W0 190 [iv o, .int .i64 i0, .int .i64 n] (kH 0 (o.H its) :: R) (fun v B => ∃ l m, v = .bool m ∧ B = kH 0 (o.H l) :: R ∧ Down its l i0 n m) := by
 refine ai 13 JG ntmps190 ?_
 refine cY (fun X : List α × Nat => X.1.Perm its ∧ i0 ≤ X.2 ∧ hQ X.1 X.2 n ∧ (∀ x, n ≤ x → X.1.getD x default = its.getD x default) ∧ (X.2 = i0 → X.1 = its) ∧ (i0 < X.2 → us X.1 ((X.2 - 1) / 2) ≤ us X.1 X.2) ∧ X.2 ≤ n) (fun X => [(0, iv o), (1, .int .i64 i0), (2, .int .i64 n), (7, .int .i64 X.2)]) (fun X => kH 0 (o.H X.1) :: R) (fun X => n - X.2) (its, i0) ?_ ?_
 ·exact ⟨List.Perm.refl _, Nat.le_refl _, hH, fun _ _ => rfl, fun _ => rfl, fun h => absurd h (Nat.lt_irrefl _), hi⟩
 intro ⟨l, i⟩ ⟨hp, hi0, hl, ht, he, hg, hin⟩
 have hlen := hp.length_eq
 simp only at hp hi0 hl ht he hg hin hlen ⊢
 refine au 4 ?_
 refine a7 rfl (iH rfl rfl (by first | exact aG (by omega) | rfl)) ?_
 refine ap 10 (bO rfl rfl (by rw [aG (by omega)]; omega : IntKind.wrap .i64 (2 * (i : Int) + 1) = ((2 * i + 1 : Nat) : Int))) ?_
 refine bB rfl rfl rfl (fun g3_4 => ?_) fun g3_4 => ?_
 ·refine au 20 ?_
  refine ae ?_
  refine ⟨_, ⟨l, decide (i0 < i), by simp [bz], rfl, vc hp hi0 hl ht he hg ?_⟩, inferInstance⟩
  first | (intro c hc h0 h1; exfalso; omega) | (intro c hc h0 h1; have := hmin c hc h0 h1; simp at c8; omega)
 refine au 6 ?_
 refine a8 rfl (fun c3 => ?_) fun c3 => ?_
 ·omega
 refine au 8 ?_
 refine dU (fun j : Nat => (j - 1) / 2 = i ∧ 0 < j ∧ j < n ∧ ∀ c, c < n → 0 < c → (c - 1) / 2 = i → us l j ≤ us l c) (fun j => [(0, iv o), (1, .int .i64 i0), (2, .int .i64 n), (7, .int .i64 i), (9, .int .i64 j)]) (fun j => kH 0 (o.H l) :: R) ?_ ?_
 ·skip
  refine au 3 ?_
  refine ap 9 (bO rfl rfl (by rw [aG (by omega)]; omega : IntKind.wrap .i64 (((2 * i + 1 : Nat) : Int) + 1) = ((2 * i + 2 : Nat) : Int))) ?_
  refine cp rfl rfl rfl (fun g6_4 => ?_) fun g6_4 => ?_
  ·refine au 6 ?_
   refine ar 3 (e8 rfl o.mE o.cE rfl (o.sE _ l (2 * i + 2) (2 * i + 1) (by omega) (by omega))) ?_
   refine a8 rfl (fun c6 => ?_) fun c6 => ?_
   ·refine au 5 ?_
    refine cj (2 * i + 2) ?_
    ·refine ⟨by omega, by omega, by omega, fun c hc h0 h1 => ?_⟩
     have : c = 2 * i + 1 ∨ c = 2 * i + 2 := by omega
     rcases this with rfl | rfl <;> (first | omega | (simp at c6; omega) | (simp at c3; omega))
   refine au 2 ?_
   refine cj (2 * i + 1) ?_
   ·refine ⟨by omega, by omega, by omega, fun c hc h0 h1 => ?_⟩
    have : c = 2 * i + 1 ∨ c = 2 * i + 2 := by omega
    rcases this with rfl | rfl <;> (first | omega | (simp at c6; omega) | (simp at c3; omega))
  refine au 9 ?_
  refine cj (2 * i + 1) ?_
  ·refine ⟨by omega, by omega, by omega, fun c hc h0 h1 => ?_⟩
   have : c = 2 * i + 1 ∨ c = 2 * i + 2 := by omega
   rcases this with rfl | rfl <;> (first | omega | (simp at c6; omega) | (simp at c3; omega))
 intro j ⟨hj, hj0, hjn, hmin⟩
 refine au 6 ?_
 refine ar 3 (e8 rfl o.mE o.cE rfl (o.sE _ l j i (by omega) (by omega))) ?_
 refine a8 rfl (fun c8 => ?_) fun c8 => ?_
 ·refine au 15 ?_
  refine ae ?_
  refine ⟨_, ⟨l, decide (i0 < i), by simp [bz], rfl, vc hp hi0 hl ht he hg ?_⟩, inferInstance⟩
  first | (intro c hc h0 h1; exfalso; omega) | (intro c hc h0 h1; have := hmin c hc h0 h1; simp at c8; omega)
 replace c8 : us l j < us l i := by simpa using c8
 refine au 7 ?_
 refine ar 8 (e8 rfl o.mS o.cS rfl (o.sS _ l i j (by omega) (by omega))) ?_
 refine bZ (swapL l i j, j) ?_ (hμ := ?_)
 ·have hs := AS hl (by omega) hjn hj hj0 c8 hmin
  exact ⟨(iP (by omega) (by omega)).trans hp, by show i0 ≤ j; omega, hs.1, vd (by omega) hjn (by omega) ht, by show j = i0 → _; omega, fun _ => hs.2, by show j ≤ n; omega⟩
 show n - j < n - i; omega
theorem B2 {its : List α} {x : α} (h : Heap its its.length) : Up (its ++ [x]) its.length (its.length + 1) := by
 have e : ∀ c, c < its.length → us (its ++ [x]) c = us its c := fun c hc => by
  unfold us; simp only [List.getD_eq_getElem?_getD]; rw [List.getElem?_append_left hc]
 intro c hc h0
 refine ⟨fun h1 => ?_, fun h1 h2 => by omega⟩
 rw [e c (by omega), e _ (by omega)]; exact h c (by omega) h0
theorem heapPush_spec (R : List HP) (its : List α) (x : α) (hN : its.length < 900) (hh : Heap its its.length) : sP W0 66 [iv o, o.el x] (kH 0 (o.H its) :: R) (fun v B => v = .tuple #[] ∧ ∃ its', B = kH 0 (o.H its') :: R ∧ its'.Perm (its ++ [x]) ∧ Heap its' its'.length) := by
 have hl : (its ++ [x]).length = its.length + 1 := by simp
 refine ai 4 func66 ntmps66 ?_
 refine ar 5 (e8 rfl o.mU o.cU rfl (o.sU _ its x (by omega))) ?_
 refine aM (e8 rfl o.mL o.cL rfl (o.sL _ (its ++ [x]))) ?_
 refine a7 rfl (cZ rfl rfl (by rw [aG (by omega)]; omega : IntKind.wrap .i64 (((its ++ [x]).length : Nat) - 1 : Int) = ((its.length : Nat) : Int))) ?_
 refine aB rfl (ao zx rfl (t9 o _ (its ++ [x]) its.length (its.length + 1) (by omega) (by omega) (by omega) (B2 hh))) ?_
 rintro _ _ ⟨rfl, l', rfl, hp, hh', _⟩
 refine bX (bT (.inr rfl) .nil ?_)
 exact ⟨_, ⟨rfl, l', rfl, hp, by rw [hp.length_eq, hl]; exact hh'⟩, inferInstance⟩
theorem vg {l : List α} {n : Nat} (h : l.length = n + 1) : ∃ l' x, l = l' ++ [x] ∧ l'.length = n ∧ x = l.getD n default := by
 have hne : l ≠ [] := fun e => by rw [e] at h; simp at h
 refine ⟨l.dropLast, l.getLast hne, (List.dropLast_concat_getLast hne).symm, by simp [h], ?_⟩
 rw [List.getLast_eq_getElem]
 simp [List.getD, h]
theorem vh {l : List α} {x : α} {n : Nat} (h : Heap (l ++ [x]) n) (hn : n ≤ l.length) : Heap l n :=
 AU (fun i hi => by simp only [List.getD_eq_getElem?_getD]; rw [List.getElem?_append_left (by omega)]) h
theorem heapPop_spec (R : List HP) (its : List α) (hN : its.length < 900) (h0 : its ≠ []) (hh : Heap its its.length) : sP W0 113 [iv o] (kH 0 (o.H its) :: R) (fun v B => ∃ x its', v = o.el x ∧ B = kH 0 (o.H its') :: R ∧ (its' ++ [x]).Perm its ∧ Heap its' its'.length ∧ ∀ y ∈ its, Hk.ky x ≤ Hk.ky y) := by
 obtain ⟨n, hn⟩ : ∃ n, its.length = n + 1 := ⟨its.length - 1, by have := List.length_pos_iff.2 h0; omega⟩
 have hs : hQ (swapL its 0 n) 0 n := fun c hc h0 => ⟨fun h1 h2 => by
  rw [j6 (by omega) (by omega), j6 (by omega) (by omega), if_neg h2, if_neg h1, if_neg (by omega), if_neg (by omega)]
  exact hh c (by omega) h0, fun _ h => by omega⟩
 have hsl := v6 its 0 n
 refine ai 8 func113 ntmps113 ?_
 refine aM (e8 rfl o.mL o.cL rfl (o.sL _ its)) ?_
 refine ap 7 (cZ rfl rfl (by rw [aG (by omega)]; omega : IntKind.wrap .i64 ((its.length : Nat) - 1 : Int) = ((n : Nat) : Int))) ?_
 refine ar 6 (e8 rfl o.mS o.cS rfl (o.sS _ its 0 n (by omega) (by omega))) ?_
 refine aB rfl (ao wx rfl (tc o _ (swapL its 0 n) 0 n (by omega) (by omega) (by omega) hs)) ?_
 rintro _ _ ⟨l, m, rfl, rfl, hD⟩
 have hll := hD.perm.length_eq
 obtain ⟨l', x, rfl, hl', hx⟩ := vg (l := l) (n := n) (by omega)
 have hx0 : x = its.getD 0 default := by
  rw [hx, hD.tail n (Nat.le_refl _), oH (by omega) (by omega)]; split
  ·rename_i e; subst e; rfl
  rw [if_pos rfl]
 have hp : (l' ++ [x]).Perm its := hD.perm.trans (iP (by omega) (by omega))
 have hH : Heap (l' ++ [x]) n := by
  cases m with
  | true => exact hD.yes rfl
  | false =>
   obtain ⟨e, hmin⟩ := hD.no rfl
   rw [e]; exact v7 hs hmin (fun h => absurd h (by omega))
 refine au 5 ?_
 refine ar 4 (e8 rfl o.mO o.cO rfl (o.sO _ l' x)) ?_
 refine ae ?_
 refine ⟨_, ⟨x, l', rfl, rfl, hp, by rw [hl']; exact vh hH (by omega), fun y hy => ?_⟩, inferInstance⟩
 obtain ⟨c, hc, rfl⟩ := List.mem_iff_getElem.1 hy
 have := heap_min hh c hc
 rw [us_eq hc] at this
 rw [hx0]; exact this
end Hp
theorem xJ {a : Nat} (h : a < 9223372036854775808) : (BitVec.ofInt 64 (a : Int)).toNat = a := by
 rw [BitVec.toNat_ofInt]; omega
theorem Qz {a b : Nat} (ha : a < 9223372036854775808) (hb : b < 9223372036854775808) : fq .i64 a b = ((a &&& b : Nat) : Int) := by
 have h : a &&& b < 9223372036854775808 := Nat.lt_of_le_of_lt Nat.and_le_left ha
 show IntKind.wrap .i64 ((BitVec.ofInt 64 (a : Int) &&& BitVec.ofInt 64 (b : Int)).toNat : Int) = _
 rw [BitVec.toNat_and, xJ ha, xJ hb, aG (by omega)]
theorem QA {a b : Nat} (ha : a < 9223372036854775808) (hb : b < 9223372036854775808) : nX .i64 a b = ((a - (a &&& b) : Nat) : Int) := by
 have hle : a &&& b ≤ a := Nat.and_le_left
 generalize hx : BitVec.ofInt 64 (a : Int) = x
 generalize hy : BitVec.ofInt 64 (b : Int) = y
 have ex : x.toNat = a := by rw [← hx]; exact xJ ha
 have ey : y.toNat = b := by rw [← hy]; exact xJ hb
 have e : (x &&& ~~~ y).toNat = a - (a &&& b) := by
  have hz : (x &&& ~~~ y) &&& (x &&& y) = 0#64 := by
   ext i hi
   simp only [BitVec.getElem_and, BitVec.getElem_not, BitVec.getElem_zero]
   cases x[i] <;> cases y[i] <;> rfl
  have h1 : (x &&& ~~~ y) + (x &&& y) = x := by
   rw [BitVec.add_eq_or_of_and_eq_zero _ _ hz]
   ext i hi
   simp only [BitVec.getElem_or, BitVec.getElem_and, BitVec.getElem_not]
   cases x[i] <;> cases y[i] <;> rfl
  have h2 := congrArg BitVec.toNat h1
  rw [BitVec.toNat_add_of_and_eq_zero hz, BitVec.toNat_and x y, ex, ey] at h2
  omega
 show IntKind.wrap .i64 ((BitVec.ofInt 64 (a : Int) &&& ~~~ BitVec.ofInt 64 (b : Int)).toNat : Int) = _
 rw [hx, hy, e, aG (by omega)]
def kF (l : Int) : Bool := decide (0 ≤ l ∧ l < 256)
theorem oJ {l : Int} : kF l = true ↔ 0 ≤ l ∧ l < 256 := by simp [kF]
def m8 (a b : Int) : Bool := kF a && kF b && decide (a.toNat - (a.toNat &&& b.toNat) = 0)
theorem xK {a b : Int} (h : ¬ (kF a = true ∧ kF b = true)) : m8 a b = false := by
 rw [← Bool.not_eq_true]; intro q
 simp only [m8, Bool.and_eq_true] at q
 exact h q.1
theorem Ff {a b : Nat} (ha : a < 256) : a - (a &&& b) = 0 ↔ ∀ c, c < 8 → a.testBit c = true → b.testBit c = true := by
 have hle : a &&& b ≤ a := Nat.and_le_left
 constructor
 ·intro h c _ hc
  have e : a &&& b = a := by omega
  have := congrArg (fun n => n.testBit c) e
  simp only [Nat.testBit_and, hc, Bool.true_and] at this
  exact this
 intro h
 have e : a &&& b = a := by
  apply Nat.eq_of_testBit_eq
  intro i
  rw [Nat.testBit_and]
  by_cases hi : i < 8
  ·cases ha' : a.testBit i with
   | false => rfl
   | true => rw [h i hi ha']; rfl
  have : a.testBit i = false := Nat.testBit_lt_two_pow (Nat.lt_of_lt_of_le ha (Nat.pow_le_pow_right (n := 2) (by decide) (show 8 ≤ i by omega)))
  rw [this]; rfl
 omega
theorem B3 (l : Int) : sQ W0 324 [.int .i64 l] R (.bool (kF l)) R := by
 refine ai 10 func324 ntmps324 ?_
 refine cp rfl rfl rfl (fun g1_3 => ?_) fun g1_3 => ?_
 ·refine au 8 ?_
  refine ae ?_
  refine aR ?_
  refine congrArg Value.bool ?_
  rw [Bool.eq_iff_iff]; simp only [kF, decide_eq_true_eq, Bool.false_eq_true, false_iff]; omega
 refine au 6 ?_
 refine ae ?_
 refine aR ?_
 refine congrArg Value.bool ?_
 rw [Bool.eq_iff_iff]; simp only [kF, decide_eq_true_eq, Bool.false_eq_true, false_iff]; omega
theorem QB (a b : Int) : bN Tryz.prog W0 268 [.int .i64 a, .int .i64 b] R (fun v B => v = .bool (m8 a b) ∧ B = R) := by
  refine gY func268 ntmps268 rfl rfl ?_
  refine bD (bQ (a7 rfl (bR rfl) (bX (aY (bD (bQ (a7 rfl (aH rfl) (aB rfl (aD JH rfl (B3 a)) ?_))))))))
  rintro _ B_ ⟨rfl, hB_⟩
  obtain rfl := hB_.symm
  refine a7 rfl (aH rfl) ?_
  refine cp rfl rfl rfl (fun g1_3 => ?_) fun g1_3 => ?_
  · refine a7 rfl (aH rfl) ?_
    refine cP rfl rfl (aB rfl (aD JH rfl (B3 b)) ?_)
    rintro _ B_ ⟨rfl, hB_⟩
    obtain rfl := hB_.symm
    refine a7 rfl (kP rfl rfl) (a7 rfl (aH rfl) ?_)
    refine cp rfl rfl rfl (fun g1_7 => ?_) fun g1_7 => ?_
    · obtain ⟨x, rfl, hx⟩ : ∃ x : Nat, a = (x : Int) ∧ x < 256 := ⟨a.toNat, by have := oJ.1 g1_3; omega, by have := oJ.1 g1_3; omega⟩
      obtain ⟨y, rfl, hy⟩ : ∃ y : Nat, b = (y : Int) ∧ y < 256 := ⟨b.toNat, by have := oJ.1 g1_7; omega, by have := oJ.1 g1_7; omega⟩
      refine a7 rfl (aH rfl) (cP rfl rfl (a7 rfl (aH rfl) (cP rfl rfl ?_)))
      refine a7 rfl (wR rfl rfl (QA (by omega) (by omega))) ?_
      refine cP rfl rfl (a7 rfl (lY rfl rfl) (a7 rfl (kP rfl rfl) (a7 rfl (bR rfl) (bX (aY (gE (bT (.inl rfl) (.cons (bK rfl) .nil) ?_)))))))
      refine ⟨_, ⟨?_, rfl⟩, inferInstance⟩
      first
        | (rw [hno]; rfl)
        | (refine congrArg Value.bool ?_
           rw [Bool.eq_iff_iff, beq_iff_eq, m8, g1_3, g1_7, Int.toNat_natCast, Int.toNat_natCast]
           simp only [Bool.and_self, Bool.true_and, decide_eq_true_iff]
           omega)
    have hno := xK (a := a) (b := b) (fun q => g1_7 q.2)
    refine fI rfl rfl rfl rfl (fI rfl rfl rfl rfl (fI rfl rfl rfl rfl (a7 rfl (iY rfl rfl) (a7 rfl (bR rfl) (bX (aY (gE (bT (.inl rfl) (.cons (bK rfl) .nil) ?_))))))))
    refine ⟨_, ⟨?_, rfl⟩, inferInstance⟩
    first
      | (rw [hno]; rfl)
      | (refine congrArg Value.bool ?_
         rw [Bool.eq_iff_iff, beq_iff_eq, m8, g1_3, g1_7, Int.toNat_natCast, Int.toNat_natCast]
         simp only [Bool.and_self, Bool.true_and, decide_eq_true_iff]
         omega)
  have hno := xK (a := a) (b := b) (fun q => g1_3 q.1)
  refine fI rfl rfl rfl rfl (a7 rfl (iY rfl rfl) (a7 rfl (aH rfl) (fI rfl rfl rfl rfl (fI rfl rfl rfl rfl (fI rfl rfl rfl rfl (fI rfl rfl rfl rfl (a7 rfl (iY rfl rfl) (a7 rfl (bR rfl) (bX (aY (gE (bT (.inl rfl) (.cons (bK rfl) .nil) ?_))))))))))))
  refine ⟨_, ⟨?_, rfl⟩, inferInstance⟩
  first
    | (rw [hno]; rfl)
    | (refine congrArg Value.bool ?_
       rw [Bool.eq_iff_iff, beq_iff_eq, m8, g1_3, g1_7, Int.toNat_natCast, Int.toNat_natCast]
       simp only [Bool.and_self, Bool.true_and, decide_eq_true_iff]
       omega)
theorem Fg (l : Int) : sQ W0 365 [.int .i64 l] R (.bool (kF l)) R := by
 refine ai 10 func365 ntmps365 ?_
 refine cp rfl rfl rfl (fun g1_3 => ?_) fun g1_3 => ?_
 ·refine au 8 ?_
  refine ae ?_
  refine aR ?_
  refine congrArg Value.bool ?_
  rw [Bool.eq_iff_iff]; simp only [kF, decide_eq_true_eq, Bool.false_eq_true, false_iff]; omega
 refine au 6 ?_
 refine ae ?_
 refine aR ?_
 refine congrArg Value.bool ?_
 rw [Bool.eq_iff_iff]; simp only [kF, decide_eq_true_eq, Bool.false_eq_true, false_iff]; omega
theorem Fh (l c : Nat) (hl : l < 256) (hc : c < 8) : sQ W0 366 [.int .i64 l, .int .i64 c] R (.bool (l.testBit c)) R := by
 have hd : l / 2 ^ c < 256 := Nat.lt_of_le_of_lt (Nat.div_le_self _ _) hl
 refine ai 9 func366 ntmps366 ?_
 refine a7 rfl (jC rfl rfl (by omega) (lE (k := .i64) (a := l) (s := c) (by show c ≤ 64; omega))) ?_
 refine ap 5 (fJ rfl rfl (Qz (a := l / 2 ^ c) (b := 1) (by omega) (by decide))) ?_
 refine ae ?_
 refine aR ?_
 refine congrArg Value.bool ?_
 rw [Bool.eq_iff_iff, beq_iff_eq, show (l / 2 ^ c) &&& 1 = l / 2 ^ c % 2 from qQ (a := l / 2 ^ c) (n := 1), Nat.testBit_eq_decide_div_mod_eq, decide_eq_true_iff]
 omega
theorem QC (a b : Int) : bN Tryz.prog W0 323 [.int .i64 a, .int .i64 b] R (fun v B => v = .bool (m8 a b) ∧ B = R) := by
 refine gY func323 ntmps323 rfl rfl ?_
 refine bD (bQ (a7 rfl (bR rfl) (bX (aY (bD (bD (bQ (a7 rfl (aH rfl) (aB rfl (aD call365 rfl (Fg a)) ?_)))))))))
 rintro _ B_ ⟨rfl, hB_⟩
 obtain rfl := hB_.symm
 refine a7 rfl (lZ rfl) (a7 rfl (aH rfl) ?_)
 refine bB rfl rfl rfl (fun g1_4 => ?_) fun g1_4 => ?_
 ·refine fI rfl rfl rfl rfl ?_
  refine fI rfl rfl rfl rfl (a7 rfl (kP rfl rfl) (bX (aY (wZ rfl (bD (bQ (a7 rfl (bR rfl) (bX (aY (gE (kO (bT (.inl rfl) (.cons (bK rfl) .nil) ?_))))))))))))
  refine ⟨_, ⟨?_, rfl⟩, inferInstance⟩
  rw [xK (fun q => by simp_all)]; rfl
 refine a7 rfl (aH rfl) (cP rfl rfl (aB rfl (aD call365 rfl (Fg b)) ?_))
 rintro _ B_ ⟨rfl, hB_⟩
 obtain rfl := hB_.symm
 refine cP rfl rfl (a7 rfl (lZ rfl) (a7 rfl (iY rfl rfl) (bX (aY ?_))))
 refine a8 rfl (fun c1 => ?_) fun c1 => ?_
 ·refine bD ?_
  refine bQ (a7 rfl (bR rfl) (bX (aY (gE (kO (bT (.inl rfl) (.cons (bK rfl) .nil) ?_))))))
  refine ⟨_, ⟨?_, rfl⟩, inferInstance⟩
  rw [xK (fun q => by simp_all)]; rfl
 have ha : kF a = true := by simpa using g1_4
 have hb : kF b = true := by simpa using c1
 obtain ⟨x, rfl, hx⟩ : ∃ x : Nat, a = (x : Int) ∧ x < 256 := ⟨a.toNat, by have := oJ.1 ha; omega, by have := oJ.1 ha; omega⟩
 obtain ⟨y, rfl, hy⟩ : ∃ y : Nat, b = (y : Int) ∧ y < 256 := ⟨b.toNat, by have := oJ.1 hb; omega, by have := oJ.1 hb; omega⟩
 refine iF (aY (bD (bD (bQ (a7 rfl (bR rfl) (bX (aY (jS ?_))))))))
 refine cY (fun i : Nat => i ≤ 8 ∧ ∀ c, c < i → x.testBit c = true → y.testBit c = true) (fun i => [(0, .int .i64 x), (1, .int .i64 y), (5, .int .i64 i)]) (fun i => R) (fun i => 8 - i) 0 ?_ ?_
 ·exact ⟨Nat.zero_le _, fun c h => absurd h (Nat.not_lt_zero _)⟩
 intro i ⟨hi, hI⟩
 refine bD (bD (bQ (a7 rfl (aH rfl) (a7 rfl (kR rfl rfl) (bX (aY ?_))))))
 refine a8 rfl (fun c4 => ?_) fun c4 => ?_
 ·refine iF ?_
  refine aY (bD (jS (bD (bQ (a7 rfl (aH rfl) (a7 rfl (aH rfl) ?_))))))
  refine aB rfl (aD call366 rfl (Fh x i hx (by omega))) ?_
  rintro _ B_ ⟨rfl, hB_⟩
  obtain rfl := hB_.symm
  refine a7 rfl (aH rfl) ?_
  refine cp rfl rfl rfl (fun g6_4 => ?_) fun g6_4 => ?_
  ·refine a7 rfl (aH rfl) ?_
   refine cP rfl rfl (a7 rfl (aH rfl) (cP rfl rfl ?_))
   refine aB rfl (aD call366 rfl (Fh y i hy (by omega))) ?_
   rintro _ B_ ⟨rfl, hB_⟩
   obtain rfl := hB_.symm
   refine cP rfl rfl (a7 rfl (lZ rfl) (a7 rfl (kP rfl rfl) (bX (aY ?_))))
   refine a8 rfl (fun c6 => ?_) fun c6 => ?_
   ·refine bD ?_
    refine bQ (a7 rfl (bR rfl) (bX (aY (gE (sd (kO (kO (sd (kO (bT (.inl rfl) (.cons (bK rfl) .nil) ?_))))))))))
    refine ⟨_, ⟨?_, rfl⟩, inferInstance⟩
    refine congrArg Value.bool (Eq.symm ?_)
    rw [← Bool.not_eq_true, m8]
    intro q
    simp only [Bool.and_eq_true, decide_eq_true_iff, Int.toNat_natCast] at q
    exact c6 ((Ff hx).1 q.2 i (by omega) g6_4)
   refine iF (lX (aY (bQ (a7 rfl (aH rfl) ?_))))
   refine a7 rfl (bO rfl rfl (by first | exact aG (by omega) | rfl)) ?_
   refine a7 rfl (bR rfl) (bX (aY (bZ (i + 1) ?_)))
   ·refine ⟨by omega, fun c hc h => ?_⟩
    by_cases e : c = i
    ·subst e
     first
      | exact Decidable.not_not.1 c6
      | exact absurd h g6_4
    exact hI c (by omega) h
  refine fI rfl rfl rfl rfl (fI rfl rfl rfl rfl (fI rfl rfl rfl rfl (a7 rfl (iY rfl rfl) (bX (aY (DO rfl (iF (lX (aY (bQ (a7 rfl (aH rfl) ?_)))))))))))
  refine a7 rfl (bO rfl rfl (by first | exact aG (by omega) | rfl)) ?_
  refine a7 rfl (bR rfl) (bX (aY (bZ (i + 1) ?_)))
  ·refine ⟨by omega, fun c hc h => ?_⟩
   by_cases e : c = i
   ·subst e
    first
     | exact Decidable.not_not.1 c6
     | exact absurd h g6_4
   exact hI c (by omega) h
 refine s8 (s9 (s9 (uo (aY (bD (bQ (a7 rfl (bR rfl) (bX (aY (gE (bT (.inl rfl) (.cons (bK rfl) .nil) ?_)))))))))))
 refine ⟨_, ⟨?_, rfl⟩, inferInstance⟩
 refine congrArg Value.bool (Eq.symm ?_)
 rw [m8, ha, hb]
 simp only [Bool.and_self, Bool.true_and, decide_eq_true_iff, Int.toNat_natCast]
 exact (Ff hx).2 fun c hc => hI c (by omega)
section
variable {rd : Option Nat} {P : Program} {S : World → Prop} {W0 : World} {N : FSz} {Q : Exit → Act → World → Prop} {e : aW} {A B R : List HP} {ops : Array Oper} {rest : List Oper}
variable {op : Op} {ty t t' : TypeId} {pos : String} {af : Array Edge} {v u : Value} {d b off : Nat} {x y z : Operand} {l l' vs : List Value}
variable {α : Type} {sz : Nat} {f : α → List Value} {xs : List α} {a : Option Addr}
theorem xL {k : IntKind} {m n r : Int} {ats : Array TypeId} (hx : ev e x = some (.int k m)) (hy : ev e y = some (.int k n)) (hr : (if n > m then n else m) = r) : cy P S N e (.call { callee := .builtin .max, args := #[x, y], argTypes := ats }) (.int k r) := fun a w _ _ _ _ _ hF _ => by
 simp [execOp, resolve, invoke, builtin, hF.eval hx, hF.eval hy, Builtin.max_, Builtin.max2, hr]
def k8 (a : Option Addr) (c i sz : Nat) : Option Addr := if c = i then a else a.map (·.add (i * sz))
theorem QD {E n c sz : Nat} {k k' : IntKind} {i h : Nat} {j1 j2 : Int} (hu : P.underlying t = some (.slice E)) (hs : ∀ w, (sizeOf E).run P w = .ok sz w) (hx : ev e x = some (.slice a n c))
  {lo hi : Operand} (h1 : ev e lo = some (.int k j1)) (h2 : ev e hi = some (.int k' j2)) (e1 : j1 = (i : Int)) (e2 : j2 = (h : Int)) (hil : i ≤ h) (hmc : h ≤ c) :
  cy P S N e (.slice t x (some lo) (some hi) none) (.slice (k8 a c i sz) (h - i) (c - i)) := fun act w _ _ _ _ _ hF _ => by
 subst e1; subst e2
 simp [execOp, Instr.sliceAt, Instr.slice, hF.eval hx, hF.eval h1, hF.eval h2, e7 hu, Instr.sliceBounds, qN hmc, qN hil, hs, k8]
theorem cG.sub (h : cG S a sz f xs) {c i k : Nat} (hk : i + k ≤ xs.length) (hc : xs.length ≤ c) : cG S (k8 a c i sz) sz f ((xs.drop i).take k) := fun j x hj => by
 have hjk : j < k := by
  rcases Nat.lt_or_ge j k with q | q
  ·exact q
  rw [List.getElem?_eq_none (by rw [List.length_take]; omega)] at hj; cases hj
 rw [List.getElem?_take_of_lt hjk, List.getElem?_drop] at hj
 obtain ⟨b, off, rfl, hcl⟩ := h (i + j) x hj
 refine ⟨b, off + i * sz, ?_, ?_⟩
 ·rw [k8, if_neg (by omega)]; simp [ii]
 rw [Nat.add_assoc, ← Nat.add_mul]; exact hcl
theorem cG.take (h : cG S a sz f xs) (k : Nat) : cG S a sz f (xs.take k) := fun j x hj => by
 have hjk : j < k := by
  rcases Nat.lt_or_ge j k with q | q
  ·exact q
  rw [List.getElem?_eq_none (by rw [List.length_take]; omega)] at hj; cases hj
 rw [List.getElem?_take_of_lt hjk] at hj
 exact h j x hj
theorem cG.src (h : cG S a sz f xs) (hf : ∀ x, (f x).length = sz) (ha : a = none → True) : (xs = []) ∨ ∃ b off, a = some ⟨b, off, none⟩ ∧ bG S b off (xs.flatMap f) := by
 by_cases h0 : xs = []
 ·exact .inl h0
 exact .inr (h.all h0 hf)
theorem B4 {E n m c cx by_ : Nat} {ay : Option Addr} {info : TypeInfo} {z : Value} {an : Option Addr} {xs news : List Value} (hu : P.underlying t = some (.slice E))
  (hi : P.info? E = some info) (hz : info.zero = some z) (hsz : info.size = sz) (hby : info.bytes = by_) (hz1 : z.cells.size = sz) (hsz0 : 0 < sz)
  (hx : ev e x = some (.slice an n c)) (hy : ev e y = some (.slice ay m cx)) [h : Tk (osl E sz) (.slice an n c) A xs R]
  (hsrc : m = 0 ∨ ∃ bx ox, ay = some ⟨bx, ox, none⟩ ∧ bG (aO W0 A) bx ox news) (hnl : news.length = m * sz) (h1 : fw news = true) (h63 : n + m ≤ maxLen) (hbig : (n + m) * by_ ≤ 140737488355328) :
  dj P W0 N e A (.call { callee := .builtin .append, args := #[x, y], argTypes := #[t, t] }) (fun v B => ∃ a' c', v = .slice a' (n + m) c' ∧ B = osl E sz v (xs ++ news) :: R) := by
 rcases hsrc with rfl | ⟨bx, ox, rfl, hc⟩
 ·have h0 : news = [] := List.eq_nil_of_length_eq_zero (by simpa using hnl)
  subst h0
  intro act w dst ty pos af g K Q hF hO k
  have hO' := hO.tk (r := osl E sz) (b := .slice an n c)
  have hcap : n ≤ c := by
   rcases hO'.osl with ⟨k1, _, _⟩ | ⟨_, _, _, _, k1, k2, _⟩
   ·cases k1; exact Nat.le_refl _
   cases k1; exact k2
  have hrun : (Builtin.append_ #[t, t] ty #[.slice an n c, .slice ay 0 cx]).run P w = .ok (.slice an n c) w := by
   cases an <;> cases ay <;> simp [Builtin.append_, e7 hu, sizeOf, typeInfo, hi, Builtin.lenOf, Builtin.firstCells, hcap, loadCells, loadCellsFrom, storeCells]
  unfold Oper.wp
  have hexec : (execOp act.eval { dst := dst, op := .call { callee := .builtin .append, args := #[x, y], argTypes := #[t, t] }, type := ty, pos := pos, after := af, guard := g }).run P w = .ok (.value (.slice an n c)) w := by
   simp only [execOp, resolve, invoke, builtin, Sem.run_bind, Sem.run_pure, Result.andThen_ok, List.map_toArray, List.map_cons, List.map_nil, hF.eval hx, hF.eval hy, hrun]
  rw [hexec]
  exact k _ w _ ⟨an, c, rfl, by rw [List.append_nil]⟩ hO'
 exact eV hu hi hz hsz hby hz1 hsz0 hx hy hc hnl h1 h63 hbig
end
section
variable {P : Program} {S : World → Prop} {W0 : World} {N : FSz} {e : aW} {A R : List HP} {t ty : TypeId} {b off : Nat} {x : Operand} {l : List Value}
theorem td {E n c sz o' : Nat} {k : IntKind} {i : Nat} {j1 : Int} (hu : P.underlying t = some (.slice E)) (hs : ∀ w, (sizeOf E).run P w = .ok sz w) (hx : ev e x = some (.slice (some ⟨b, off, none⟩) n c))
  {lo : Operand} (h1 : ev e lo = some (.int k j1)) (e1 : j1 = (i : Int)) (hil : i ≤ n) (hne : i < c) (ho : off + i * sz = o') :
  cy P S N e (.slice t x (some lo) none none) (.slice (some ⟨b, o', none⟩) (n - i) (c - i)) := fun a w _ _ _ _ _ hF _ => by
 subst e1; subst ho
 have hmi : ¬ c = i := by omega
 simp [execOp, Instr.sliceAt, Instr.slice, hF.eval hx, hF.eval h1, e7 hu, Instr.sliceBounds, qN hil, hs, hmi, ii]
theorem pR {E n c sz : Nat} {k : IntKind} {i : Nat} {j1 : Int} {a a' : Option Addr} (hu : P.underlying t = some (.slice E)) (hs : ∀ w, (sizeOf E).run P w = .ok sz w) (hx : ev e x = some (.slice a n c))
  {lo : Operand} (h1 : ev e lo = some (.int k j1)) (e1 : j1 = (i : Int)) (hil : i ≤ n) (ha : k8 a c i sz = a') :
  cy P S N e (.slice t x (some lo) none none) (.slice a' (n - i) (c - i)) := fun act w _ _ _ _ _ hF _ => by
 subst e1; subst ha
 simp [execOp, Instr.sliceAt, Instr.slice, hF.eval hx, hF.eval h1, e7 hu, Instr.sliceBounds, qN hil, hs, k8]
theorem Fi (z : Array Value) (n : Nat) : (Builtin.zeroCells z n).toList.length = n * z.size := by simp [Builtin.zeroCells]
theorem QE (z : Array Value) (n : Nat) (hz : z.all Value.oneCell' = true) : ∀ v ∈ (Builtin.zeroCells z n).toList, v.oneCell' = true := fun v hv => by
 simp only [Builtin.zeroCells, Array.toList_map, List.mem_map, Array.toList_range, List.mem_range] at hv
 obtain ⟨i, hi, rfl⟩ := hv
 have hp : 0 < z.size := by
  rcases Nat.eq_zero_or_pos z.size with q | q
  ·rw [q] at hi; simp at hi
  exact q
 have hlt : i % z.size < z.size := Nat.mod_lt _ hp
 rw [getElem!_pos z (i % z.size) hlt]
 exact (Array.all_eq_true.1 hz) _ hlt
theorem B5 {E n c : Nat} {z : Value} (hu : P.underlying t = some (.slice E)) (hz : ∀ w, (zeroValue E).run P w = .ok z w) (h1 : z.cells.all Value.oneCell' = true) (hx : ev e x = some (.slice (some ⟨b, off, none⟩) n c)) (hn : 0 < n)
  [h : Tk pt b A (ac l ty) R] (ho : off + n * z.cells.size ≤ l.length) :
  dj P W0 N e A (.call { callee := .builtin .clear, args := #[x], argTypes := #[t] }) (fun v B => ∃ vs : List Value, vs.length = n * z.cells.size ∧ v = .tuple #[] ∧ B = pt b (ac (setR l off vs) ty) :: R) := by
 intro a w dst ty' pos af g K Q hF hO k
 have hO' := hO.tk (r := pt) (b := b)
 obtain ⟨w', hst, hO''⟩ := wW (P := P) (off := off) (Builtin.zeroCells z.cells n).toList 0 hO' (by rw [Fi]; omega) (QE _ _ h1)
 rw [Nat.add_zero] at hO''
 have hexec : (execOp a.eval { dst := dst, op := .call { callee := .builtin .clear, args := #[x], argTypes := #[t] }, type := ty', pos := pos, after := af, guard := g }).run P w = .ok (.value (.tuple #[])) w' := by
  obtain ⟨m, rfl⟩ : ∃ m, n = m + 1 := ⟨n - 1, by omega⟩
  simp only [execOp, resolve, invoke, builtin, Sem.run_bind, Sem.run_pure, Result.andThen_ok, List.map_toArray, List.map_cons, List.map_nil, hF.eval hx, Builtin.clear_, Array.getElem?_eq_getElem, List.getElem?_toArray, List.getElem?_cons_zero, e7 hu, hz, hst]
 unfold Oper.wp
 rw [hexec]
 exact k _ w' _ ⟨_, Fi _ _, rfl, rfl⟩ hO''
section
variable {rd : Option Nat} {Q : Exit → Act → World → Prop} {ops : Array Oper} {rest : List Oper} {pos : String} {af : Array Edge} {d : Nat} {y : Operand}
theorem QF {xc yc : Code} (k : az W0 N (yc.wpR rd P Q) e A) : az W0 N ((Code.cond (.const (.bool false)) xc yc).wpR rd P Q) e A :=
 fun a w hF hO => wpIn_cond_false (hF.eval (x := .const (.bool false)) rfl) (k a w hF hO)
theorem QG {k : IntKind} {i : Int} {j : Nat} {s : ByteArray} (hu : P.underlying t = some .string) (hx : ev e x = some (.string s)) (hy : ev e y = some (.int k i)) (hi : i = (j : Int)) (hj : j < s.size) :
  cy P S N e (.index t x y) (.int .u8 (s[j]'hj).toNat) := fun a w _ _ _ _ _ hF _ => by
 subst hi
 have h1 : (0 : Int) ≤ (j : Int) := by omega
 simp only [execOp, Instr.index, Sem.run_bind, hF.eval hx, hF.eval hy, asIntOf, Sem.run_pure, Result.andThen_ok, e7 hu, if_pos h1, Int.toNat_natCast, getElem?_pos s j hj]
theorem QH {k : IntKind} {i : Int} {j : Nat} {s : ByteArray} (hd : Nat.blt d N.n = true) (hu : P.underlying t = some .string) (hx : ev e x = some (.string s)) (hy : ev e y = some (.int k i)) (hi : i = (j : Int)) (hj : j < s.size)
  (kk : ∀ m : Nat, m < 256 → az W0 N (aZ rd P ops Q rest) ((d, .int .u8 m) :: e) A) :
  az W0 N (aZ rd P ops Q ({ dst := some d, op := .index t x y, type := ty, pos := pos, after := af, guard := none } :: rest)) e A :=
 a7 hd (QG hu hx hy hi hj) (kk _ (UInt8.toNat_lt _))
end
end
section
variable {P : Program} {W0 : World} {N : FSz} {e : aW} {A R R1 R2 R3 R4 R5 R6 R7 : List HP} {vs us cs : List Value}
variable {K1 K2 K3 K4 K5 K6 K7 K8 X1 X2 X3 X4 X5 X6 X7 X8 : Type} {r1 : K1 → X1 → HP} {b1 : K1} {x1 : X1} {r2 : K2 → X2 → HP} {b2 : K2} {x2 : X2} {r3 : K3 → X3 → HP} {b3 : K3} {x3 : X3} {r4 : K4 → X4 → HP} {b4 : K4} {x4 : X4} {r5 : K5 → X5 → HP} {b5 : K5} {x5 : X5} {r6 : K6 → X6 → HP} {b6 : K6} {x6 : X6} {r7 : K7 → X7 → HP} {b7 : K7} {x7 : X7} {r8 : K8 → X8 → HP} {b8 : K8} {x8 : X8}
theorem Fj [h1 : Tk r1 b1 A x1 R1] [h2 : Tk r2 b2 R1 x2 R2] [h3 : Tk r3 b3 R2 x3 R3] [h4 : Tk r4 b4 R3 x4 R4] [h5 : Tk r5 b5 R4 x5 R5] [h6 : Tk r6 b6 R5 x6 R6] [h7 : Tk r7 b7 R6 x7 R] : A.Perm (r1 b1 x1 :: r2 b2 x2 :: r3 b3 x3 :: r4 b4 x4 :: r5 b5 x5 :: r6 b6 x6 :: r7 b7 x7 :: R) := h1.perm.trans (uI.cons _)
theorem QI [h1 : Tk r1 b1 A x1 R1] [h2 : Tk r2 b2 R1 x2 R2] [h3 : Tk r3 b3 R2 x3 R3] [h4 : Tk r4 b4 R3 x4 R4] [h5 : Tk r5 b5 R4 x5 R5] [h6 : Tk r6 b6 R5 x6 R6] [h7 : Tk r7 b7 R6 x7 R7] [h8 : Tk r8 b8 R7 x8 R] : A.Perm (r1 b1 x1 :: r2 b2 x2 :: r3 b3 x3 :: r4 b4 x4 :: r5 b5 x5 :: r6 b6 x6 :: r7 b7 x7 :: r8 b8 x8 :: R) := h1.perm.trans (Fj.cons _)
variable {f : FuncId} {xs : Array Operand} {ats : Array TypeId} {Post : Value → List HP → Prop}
theorem Fl (hc : ∀ args w, (callFunc f args).run P w = .ok (.enter f args) w) (hx : eU e xs.toList = some vs)
  (hs : bN P W0 f vs (r1 b1 x1 :: r2 b2 x2 :: r3 b3 x3 :: r4 b4 x4 :: r5 b5 x5 :: r6 b6 x6 :: r7 b7 x7 :: R) Post) [h1 : Tk r1 b1 A x1 R1] [h2 : Tk r2 b2 R1 x2 R2] [h3 : Tk r3 b3 R2 x3 R3] [h4 : Tk r4 b4 R3 x4 R4] [h5 : Tk r5 b5 R4 x5 R5] [h6 : Tk r6 b6 R5 x6 R6] [h7 : Tk r7 b7 R6 x7 R] : dj P W0 N e A (.call { callee := .value (.func f), args := xs, argTypes := ats }) Post :=
 iK Fj (aD hc hx hs)
theorem xM (hc : ∀ args w, (callFunc f args).run P w = .ok (.enter f args) w) (hx : eU e xs.toList = some vs)
  (hs : bN P W0 f vs (r1 b1 x1 :: r2 b2 x2 :: r3 b3 x3 :: r4 b4 x4 :: r5 b5 x5 :: r6 b6 x6 :: r7 b7 x7 :: r8 b8 x8 :: R) Post) [h1 : Tk r1 b1 A x1 R1] [h2 : Tk r2 b2 R1 x2 R2] [h3 : Tk r3 b3 R2 x3 R3] [h4 : Tk r4 b4 R3 x4 R4] [h5 : Tk r5 b5 R4 x5 R5] [h6 : Tk r6 b6 R5 x6 R6] [h7 : Tk r7 b7 R6 x7 R7] [h8 : Tk r8 b8 R7 x8 R] : dj P W0 N e A (.call { callee := .value (.func f), args := xs, argTypes := ats }) Post :=
 iK QI (aD hc hx hs)
end
structure Prt where
  lab : Int
  gu : Int
  l : List ByteArray
instance : Inhabited Prt := ⟨⟨0, 0, []⟩⟩
section
variable {P : Program} {W0 : World} {N : FSz} {K : Act → World → Prop} {e : aW} {A B R R1 R2 R3 R4 : List HP} {p g n : Nat} {ps : List Prt} {f : FuncId} {args : List Value} {Post : Value → List HP → Prop}
theorem Fo {α : Type} : ∀ (l : List α) (i : Nat) (h : i < l.length), l.Perm (l[i] :: l.eraseIdx i)
 | x :: l, 0, h => by simp
 | x :: l, i + 1, h => by
  simp only [List.getElem_cons_succ, List.eraseIdx_cons_succ]
  exact ((Fo l i (by simpa using h)).cons x).trans (List.Perm.swap _ _ _)
theorem Fp {α : Type} : ∀ (l : List α) (i : Nat) (x : α) (h : i < l.length), (x :: l.eraseIdx i).Perm (l.set i x)
 | y :: l, 0, x, h => by simp
 | y :: l, i + 1, x, h => by
  simp only [List.set_cons_succ, List.eraseIdx_cons_succ]
  exact (List.Perm.swap _ _ _).trans ((Fp l i x (by simpa using h)).cons y)
theorem QJ {L : List HP} {i : Nat} (h : i < L.length) : Ent (kH 2 (cn L) :: R) (L[i] :: kH 3 (cn (L.eraseIdx i)) :: R) := by
 refine (px (A := L) (R := R)).trans ?_
 refine (Ent.ofPerm ((Fo L i h).append_right R)).trans ?_
 exact Ent.cons py
theorem QK {L : List HP} {i : Nat} {x : HP} (h : i < L.length) : Ent (x :: kH 3 (cn (L.eraseIdx i)) :: R) (kH 2 (cn (L.set i x)) :: R) := by
 refine (Ent.cons px).trans ?_
 exact (Ent.ofPerm ((Fp L i x h).append_right R)).trans py
end
theorem B6 {vs : List Value} {i : Nat} {v : Value} (h : vs[i]? = some v) : vs.set i v = vs := by
 have hi : i < vs.length := by
  rcases Nat.lt_or_ge i vs.length with k | k
  ·exact k
  rw [List.getElem?_eq_none k] at h; cases h
 have : vs[i] = v := by simpa [hi] using h
 rw [← this]; exact List.set_getElem_self _
@[reducible] def dS (x : Int × Bool) : List Value := [.int .i64 x.1, .bool x.2]
theorem xN (x : Int × Bool) : (dS x).length = 2 := rfl
@[reducible] def j7 (n : Nat) : List Value := [.int .i64 (n : Int)]
theorem l7 (n : Nat) : (j7 n).length = 1 := rfl
def dK (p : Value × List Nat) : HP := osl 3 1 p.1 (p.2.flatMap j7)
@[reducible] def ek (ps : Nat) (sv : Value) (vs : List Value) : List Value := .pointer (some ⟨ps, 0, none⟩) :: sv :: vs
theorem Fq (ps w : Nat) (sv v : Value) (vs : List Value) : (ek ps sv vs).set (2 + w * 1) v = ek ps sv (vs.set w v) := by
 rw [show 2 + w * 1 = w + 1 + 1 by omega]; rfl
abbrev gj (w : Nat) : Nat → List Nat × List Value → HP := l5 208 3 1 j7 (2 + w * 1)
def cJ (pb : Nat) (x : Nat × Po) : HP := chk (fun C => ∃ a c vs Ls, vs.length = 16 ∧ LsOk x.2 Ls ∧ C = [pt pb (ac (ek x.1 (.slice a x.2.length c) vs) 208), osl 210 2 (.slice a x.2.length c) (x.2.flatMap dS), kH 2 (cn ((vs.zip Ls).map dK))])
theorem QL {F : List HP → Prop} {R B : List HP} (h : ∀ C, F C → Ent (C ++ R) B) : Ent (chk F :: R) B := ⟨fun l hl => by
 obtain ⟨l1, l2, rfl, ⟨C, hC, hs⟩, h2⟩ := hl
 exact (h C hC).out _ (gU.append.2 ⟨l1, l2, rfl, hs, h2⟩)⟩
section
variable {P : Program} {W0 : World} {N : FSz} {K : Act → World → Prop} {e : aW} {A B R R1 R2 R3 : List HP} {pb ps w n : Nat} {po : Po} {f : FuncId} {args : List Value} {Post : Value → List HP → Prop}
theorem te [hk : Tk cJ pb A (ps, po) R] (h : ∀ a c vs Ls, vs.length = 16 → LsOk po Ls → az W0 N K e (pt pb (ac (ek ps (.slice a po.length c) vs) 208) :: osl 210 2 (.slice a po.length c) (po.flatMap dS) :: kH 2 (cn ((vs.zip Ls).map dK)) :: R)) : az W0 N K e A :=
 fK (r := cJ) (b := pb) (mt fun C hC => by obtain ⟨a, c, vs, Ls, h1, h2, rfl⟩ := hC; exact h a c vs Ls h1 h2)
theorem Fs (h : ∀ a c vs Ls, vs.length = 16 → LsOk po Ls → bN P W0 f args (pt pb (ac (ek ps (.slice a po.length c) vs) 208) :: osl 210 2 (.slice a po.length c) (po.flatMap dS) :: kH 2 (cn ((vs.zip Ls).map dK)) :: R) Post) : bN P W0 f args (cJ pb (ps, po) :: R) Post :=
 qM fun C hC => by obtain ⟨a, c, vs, Ls, h1, h2, rfl⟩ := hC; exact h a c vs Ls h1 h2
theorem tf {a : Option Addr} {c : Nat} {vs xs : List Value} {Ls : List (List Nat)} {sv : Value} [h1 : Tk pt pb A (ac (ek ps sv vs) 208) R1] [h2 : Tk (osl 210 2) sv R1 xs R2] [h3 : Tk kH 2 R2 (cn ((vs.zip Ls).map dK)) R3]
  (hs : sv = .slice a n c) (hv : vs.length = 16) (hL : LsOk po Ls) (hn : n = po.length) (hx : xs = po.flatMap dS) [k : Ent R3 B] : Ent A (cJ pb (ps, po) :: B) := by
 subst hs; subst hn; subst hx
 exact (Ent.ofPerm (h1.perm.trans ((h2.perm.trans (h3.perm.cons _)).cons _))).trans ((Ent.cons (Ent.cons (Ent.cons k))).trans (fC (R := B) (C := [_, _, _]) ⟨a, c, vs, Ls, hv, hL, rfl⟩))
theorem xO {sv : Value} {vs : List Value} {Ls : List (List Nat)} (hw : w < 16) (hv : vs.length = 16) (hL : Ls.length = 16) :
  Ent (pt pb (ac (ek ps sv vs) 208) :: kH 2 (cn ((vs.zip Ls).map dK)) :: R) (gj w pb (Ls.getD w [], ek ps sv vs) :: kH 3 (cn (((vs.zip Ls).map dK).eraseIdx w)) :: R) := by
 have hlen : ((vs.zip Ls).map dK).length = 16 := by simp [hv, hL]
 have hg : ((vs.zip Ls).map dK)[w]'(by omega) = osl 3 1 (vs.getD w undef) ((Ls.getD w []).flatMap j7) := by
  simp [dK, List.getD, show w < vs.length by omega, show w < Ls.length by omega]
 have e2 := QJ (L := (vs.zip Ls).map dK) (R := R) (i := w) (by omega)
 rw [hg] at e2
 refine (Ent.cons e2).trans ?_
 generalize hvw : vs.getD w undef = v
 have hvs : vs[w]? = some v := by rw [← hvw]; simp [List.getD, show w < vs.length by omega]
 refine ⟨fun l hl => ?_⟩
 obtain ⟨l1, l2, rfl, h1, l3, l4, rfl, h3, h4⟩ := hl
 have key : ∀ a c, v = .slice a (Ls.getD w []).length c → ∃ l' r, gU (gj w pb (Ls.getD w [], ek ps sv vs) :: kH 3 (cn (((vs.zip Ls).map dK).eraseIdx w)) :: R) l' ∧ (l1 ++ (l3 ++ l4)).Perm (l' ++ r) := fun a c hva => by
  have hcs : (ek ps sv vs).set (2 + w * 1) (.slice a (Ls.getD w []).length c) = ek ps sv vs := by
   rw [← hva, Fq, B6 hvs]
  refine ⟨(l1 ++ l3) ++ l4, [], ⟨l1 ++ l3, l4, rfl, ⟨_, ⟨by simp [ek, hv]; omega, a, c, rfl⟩, ?_⟩, h4⟩, by simp⟩
  rw [hcs, ← hva]
  exact ⟨l1, l3, rfl, h1, l3, [], by simp, h3, rfl⟩
 rcases id h3 with ⟨k1, k2, _⟩ | ⟨g, n, cap, sp, k1, _, _, k4, _, _⟩
 ·have hl0 : (Ls.getD w []).length = 0 := by
   have := congrArg List.length k2
   rw [cz l7] at this; simpa using this
  exact key none 0 (by rw [k1, hl0])
 have hl0 : (Ls.getD w []).length = n := by rw [cz l7] at k4; omega
 exact key (some ⟨g, 0, none⟩) cap (by rw [k1, hl0])
theorem xP {a : Option Addr} {c : Nat} {sv : Value} {vs : List Value} {Ls : List (List Nat)} {l : List Nat} {po' : Po} (hw : w < 16) (hv : vs.length = 16) (hs : sv = .slice a n c) (hn : n = po'.length) (hL : Ls.length = 16) (hk : LsOk po' (Ls.set w l)) :
  Ent (gj w pb (l, ek ps sv vs) :: osl 210 2 sv (po'.flatMap dS) :: kH 3 (cn (((vs.zip Ls).map dK).eraseIdx w)) :: R) (cJ pb (ps, po') :: R) := by
 refine QL fun C hC => ?_
 obtain ⟨ho, a2, c2, rfl⟩ := hC
 have hcs : (ek ps sv vs).set (2 + w * 1) (.slice a2 l.length c2) = ek ps sv (vs.set w (.slice a2 l.length c2)) := Fq ..
 dsimp only
 rw [hcs]
 have hlen : ((vs.zip Ls).map dK).length = 16 := by simp [hv, hL]
 have hset : ((vs.set w (.slice a2 l.length c2)).zip (Ls.set w l)).map dK = ((vs.zip Ls).map dK).set w (dK (.slice a2 l.length c2, l)) := by
  apply List.ext_getElem
  ·simp
  intro j h1 h2
  by_cases e : j = w
  ·subst e; simp
  have e' : ¬ w = j := fun h => e h.symm
  simp [List.getElem_set, e']
 have e2 : Ent (dK (.slice a2 l.length c2, l) :: kH 3 (cn (((vs.zip Ls).map dK).eraseIdx w)) :: R) (kH 2 (cn (((vs.set w (.slice a2 l.length c2)).zip (Ls.set w l)).map dK)) :: R) := by
  rw [hset]; exact QK (by omega)
 refine (Ent.ofPerm ((List.Perm.swap _ _ _).cons _)).trans ?_
 refine (Ent.cons (Ent.cons e2)).trans ?_
 exact tf (vs := vs.set w (.slice a2 l.length c2)) hs (by simpa using hv) hk hn rfl
end
theorem B7 (po : Po) (sp : List Value) (i j : Nat) (hi : i < po.length) (hj : j < 2) : (po.flatMap dS ++ sp)[i * 2 + j]? = (dS (cD po i))[j]? := by
 rw [ly xN po i j sp hi hj]; simp [cD, List.getD, hi]
theorem QM (po : Po) (sp : List Value) (i : Nat) (v : Int) (hi : i < po.length) : (po.flatMap dS ++ sp).set (i * 2 + 0) (.int .i64 v) = (po.set i (v, (cD po i).2)).flatMap dS ++ sp :=
 ni xN po i 0 _ _ sp hi (by decide) (by simp [cD, List.getD, hi, dS])
theorem Ft (po : Po) (sp : List Value) (i : Nat) (v : Bool) (hi : i < po.length) : (po.flatMap dS ++ sp).set (i * 2 + 1) (.bool v) = (po.set i ((cD po i).1, v)).flatMap dS ++ sp :=
 ni xN po i 1 _ _ sp hi (by decide) (by simp [cD, List.getD, hi, dS])
theorem l8 (po : Po) : (po.flatMap dS).length = po.length * 2 := cz xN po
abbrev pS (pb w : Nat) : Value := .pointer (some ⟨pb, 2 + w * 1, none⟩)
theorem rp {its : List Nat} {sp : List Value} {i : Nat} (hi : i < its.length) : (its.flatMap j7 ++ sp)[i * 1]? = some (.int .i64 ((its.getD i default : Nat) : Int)) := by
 have := ly l7 its i 0 sp hi (by decide)
 rw [Nat.add_zero] at this
 rw [this]; simp [j7, List.getD, hi]
theorem xQ {its : List Nat} {sp : List Value} {i x : Nat} (hi : i < its.length) : (its.flatMap j7 ++ sp).set (i * 1) (.int .i64 (x : Int)) = (its.set i x).flatMap j7 ++ sp := by
 have := ni l7 its i 0 (.int .i64 (x : Int)) x sp hi (by decide) (by simp [j7])
 rwa [Nat.add_zero] at this
theorem xR {its : List Nat} {sp : List Value} {i : Nat} (hi : i < its.length) : i * 1 + 1 ≤ (its.flatMap j7 ++ sp).length := Qy l7 its sp i hi
theorem xS (pb w : Nat) (its : List Nat) (cs : List Value) : sQ W0 112 [pS pb w] (gj w pb (its, cs) :: R) (.int .i64 (its.length : Nat)) (gj w pb (its, cs) :: R) := by
 refine pQ fun a c ho => ?_
 refine ai 10 func112 ntmps112 ?_
 refine ap 5 (aA mh rfl (aN (dP ho))) ?_
 refine ae ?_
 exact ⟨_, ⟨rfl, rfl⟩, l6 rfl rfl ho rfl⟩
theorem QN (pb w : Nat) (its : List Nat) (cs : List Value) (i k : Nat) (hi : i < its.length) (hk : k < its.length) : sQ W0 497 [pS pb w, .int .i64 i, .int .i64 k] (gj w pb (its, cs) :: R) (.bool (decide (Hp.us its i < Hp.us its k))) (gj w pb (its, cs) :: R) := by
 refine nz l7 (by intro e; subst e; simp at hi) (by decide) fun g c sp ho h1 h2 h3 => ?_
 refine ai 6 func497 ntmps497 ?_
 refine aU [(pb, 0, _), (g, 0, _)] 16 aT rfl (aa (aa ag)) (fun hS => ?_)
 refine ah 0 3 hS ?_
 refine av 3 rfl rfl rfl hS (aA mh rfl (dv (k := 0) rfl (dP ho))) ?_
 refine ah 4 1 hS ?_
 refine av 5 rfl rfl rfl hS (bc dB aj rfl rfl rfl hi (by first | exact Nat.zero_add _ | rfl)) ?_
 refine av 6 rfl rfl rfl hS (aA aX rfl (dv (k := 1) rfl (rp hi))) ?_
 refine ah 7 3 hS ?_
 refine av 10 rfl rfl rfl hS (aA mh rfl (dv (k := 0) rfl (dP ho))) ?_
 refine ah 11 1 hS ?_
 refine av 12 rfl rfl rfl hS (bc dB aj rfl rfl rfl hk (by first | exact Nat.zero_add _ | rfl)) ?_
 refine av 13 rfl rfl rfl hS (aA aX rfl (dv (k := 1) rfl (rp hk))) ?_
 refine ah 14 2 hS ?_
 refine aK ?_
 refine au 2 ?_
 refine ae ?_
 exact ⟨_, ⟨rfl, rfl⟩, iR l7 rfl rfl ho rfl h1 h2 h3⟩
theorem QO (pb w : Nat) (its : List Nat) (cs : List Value) (i k : Nat) (hi : i < its.length) (hk : k < its.length) : sQ W0 500 [pS pb w, .int .i64 i, .int .i64 k] (gj w pb (its, cs) :: R) (.tuple #[]) (gj w pb (Hp.swapL its i k, cs) :: R) := by
 refine nz l7 (by intro e; subst e; simp at hi) (by decide) fun g c sp ho h1 h2 h3 => ?_
 refine gY func500 ntmps500 rfl rfl ?_
 refine aU [(pb, 0, _)] 28 aT rfl (aa ag) (fun hS => ?_)
 refine ah 0 3 hS ?_
 refine av 3 rfl rfl rfl hS (aA mh rfl (dv (k := 0) rfl (dP ho))) ?_
 refine ah 4 4 hS ?_
 refine av 8 rfl rfl rfl hS (aA mh rfl (dv (k := 0) rfl (dP ho))) ?_
 refine ah 9 4 hS ?_
 refine av 13 rfl rfl rfl hS (aA mh rfl (dv (k := 0) rfl (dP ho))) ?_
 refine ah 14 1 hS ?_
 refine av 15 rfl rfl rfl hS (bc dB aj rfl rfl rfl hk (by first | exact Nat.zero_add _ | rfl)) ?_
 refine ah 17 3 hS ?_
 refine av 20 rfl rfl rfl hS (aA mh rfl (dv (k := 0) rfl (dP ho))) ?_
 refine ah 21 1 hS ?_
 refine av 22 rfl rfl rfl hS (bc dB aj rfl rfl rfl hi (by first | exact Nat.zero_add _ | rfl)) ?_
 refine eJ (is := [16, 23]) (by kernel_rfl) rfl ⟨?_, ?_, trivial⟩
 ·skip
  refine cV rfl rfl (dC (aA aX rfl (aN (rp hk)))) rfl ?_; clear hS
  rintro _ _ ⟨rfl, rfl⟩
  refine ⟨(aa ag), fun hS => ?_⟩
  refine bF 23 rfl rfl (dC (aA aX rfl (aN (rp hi)))) (aa ag) fun hS => ?_
  refine av 24 rfl rfl rfl hS (bc dB aj rfl rfl rfl hi (by first | exact Nat.zero_add _ | rfl)) ?_
  refine bU 25 rfl rfl (bA aj rfl rfl rfl (xR hi) (xQ hi)) (aa ag) fun hS => ?_
  refine av 26 rfl rfl rfl hS (bc dB aj rfl rfl rfl hk (by first | exact Nat.zero_add _ | rfl)) ?_
  refine bU 27 rfl rfl (bA aj rfl rfl rfl (xR (by simpa using hk)) (xQ (by simpa using hk))) (aa ag) fun hS => ?_
  refine aK ?_
  refine bT (.inr rfl) .nil ?_
  exact ⟨_, ⟨rfl, rfl⟩, iR l7 rfl rfl ho (by simp [Hp.swapL]) (by simpa [Hp.swapL] using h1) h2 (by rw [List.length_append, cz l7] at h3 ⊢; simpa [Hp.swapL] using h3)⟩
 skip
 refine cV rfl rfl (dC (aA aX rfl (aN (rp hi)))) rfl ?_; clear hS
 rintro _ _ ⟨rfl, rfl⟩
 refine ⟨(aa ag), fun hS => ?_⟩
 refine bF 16 rfl rfl (dC (aA aX rfl (aN (rp hk)))) (aa ag) fun hS => ?_
 refine av 24 rfl rfl rfl hS (bc dB aj rfl rfl rfl hi (by first | exact Nat.zero_add _ | rfl)) ?_
 refine bU 25 rfl rfl (bA aj rfl rfl rfl (xR hi) (xQ hi)) (aa ag) fun hS => ?_
 refine av 26 rfl rfl rfl hS (bc dB aj rfl rfl rfl hk (by first | exact Nat.zero_add _ | rfl)) ?_
 refine bU 27 rfl rfl (bA aj rfl rfl rfl (xR (by simpa using hk)) (xQ (by simpa using hk))) (aa ag) fun hS => ?_
 refine aK ?_
 refine bT (.inr rfl) .nil ?_
 exact ⟨_, ⟨rfl, rfl⟩, iR l7 rfl rfl ho (by simp [Hp.swapL]) (by simpa [Hp.swapL] using h1) h2 (by rw [List.length_append, cz l7] at h3 ⊢; simpa [Hp.swapL] using h3)⟩
theorem QP (pb w : Nat) (its : List Nat) (x : Nat) (cs : List Value) : sQ W0 498 [pS pb w] (gj w pb (its ++ [x], cs) :: R) (.iface 3 (.int .i64 (x : Int))) (gj w pb (its, cs) :: R) := by
 refine nz l7 (by simp) (by decide) fun g c sp ho h1 h2 h3 => ?_
 have hl : (its ++ [x]).length = its.length + 1 := by simp
 rw [hl] at h1 ⊢
 have hg : (its ++ [x]).getD its.length default = x := by simp [List.getD]
 have he : (its ++ [x]).flatMap j7 ++ sp = its.flatMap j7 ++ (j7 x ++ sp) := by simp
 have hget := rp (its := its ++ [x]) (sp := sp) (i := its.length) (by omega)
 rw [hg] at hget
 refine ai 10 func498 ntmps498 ?_
 refine a7 rfl (aA mh rfl (aN (dP ho))) ?_
 refine a7 rfl (sg dB rfl) ?_
 refine ap 8 (cZ rfl rfl (by rw [aG (by simp only [maxLen] at h2; omega)]; omega : IntKind.wrap .i64 (((its.length + 1 : Nat) : Int) - 1) = ((its.length : Nat) : Int))) ?_
 refine a7 rfl (aA mh rfl (aN (dP ho))) ?_
 refine a7 rfl (aH rfl) ?_
 refine a7 rfl (bc dB aj rfl rfl rfl (by omega) (by first | exact Nat.zero_add _ | rfl)) ?_
 refine ap 9 (aA aX rfl (aN hget)) ?_
 refine a7 rfl (aA mh rfl (aN (dP ho))) ?_
 refine a7 rfl (aH rfl) ?_
 refine ap 2 (m0 dB aj rfl rfl rfl (by omega)) ?_
 refine aE 5 (bA pf rfl rfl rfl (by rw [List.length_set]; exact ho) set_set) ?_
 refine ap 4 (fY cW (fun _ h => nomatch h) rfl) ?_
 refine ae ?_
 rw [he]
 exact ⟨_, ⟨rfl, rfl⟩, iR (sp := j7 x ++ sp) l7 rfl rfl ho rfl (by omega) h2 (by rw [← he]; exact h3)⟩
theorem QQ (pb w : Nat) (its : List Nat) (x : Nat) (cs : List Value) (hn : its.length < 1000) : sQ W0 499 [pS pb w, .iface 3 (.int .i64 (x : Int))] (gj w pb (its, cs) :: R) (.tuple #[]) (gj w pb (its ++ [x], cs) :: R) := by
 refine pQ fun a c ho => ?_
 have he : its.flatMap j7 ++ [Value.int .i64 (x : Int)] = (its ++ [x]).flatMap j7 := by simp
 refine gY func499 ntmps499 rfl rfl ?_
 refine aU [] 12 aT rfl ag (fun hS => ?_)
 refine ah 0 4 hS ?_
 refine ah 5 1 hS ?_
 refine av 6 rfl rfl rfl hS (pE cW (fun _ h => nomatch h) rfl) ?_
 refine eJ (is := [4, 7]) (by kernel_rfl) rfl ⟨?_, ?_, trivial⟩
 ·skip
  refine cV rfl rfl (dC (aA mh rfl (aN (dP ho)))) rfl ?_; clear hS
  rintro _ _ ⟨rfl, rfl⟩
  refine ⟨ag, fun hS => ?_⟩
  refine bS 7 (by kernel_rfl) rfl rfl (jT dB aj ml rfl rfl rfl rfl rfl (by decide) (by decide)) rfl ?_; clear hS
  rintro _ _ ⟨b1, rfl, rfl⟩
  refine ⟨ag, fun hS => ?_⟩
  refine bS 8 (by kernel_rfl) rfl rfl (eV (sz := 1) (by_ := 8) (info := Tryz.t3) dB (by kernel_rfl) rfl rfl rfl rfl (by decide) rfl rfl eC rfl rfl (by simp only [maxLen]; omega) (by omega)) rfl ?_; clear hS
  rintro _ _ ⟨a1, c1, rfl, rfl⟩
  refine ⟨ag, fun hS => ?_⟩
  refine ah 9 2 hS ?_
  refine bU 11 rfl rfl (bA pf rfl rfl rfl (by rw [List.length_set]; exact ho) set_set) ag fun hS => ?_
  refine aK ?_
  refine bT (.inr rfl) .nil ?_
  exact ⟨_, ⟨rfl, rfl⟩, l6 (its := its ++ [x]) he rfl ho (by simp)⟩
 skip
 refine cV rfl rfl (jT dB aj ml rfl rfl rfl rfl rfl (by decide) (by decide)) rfl ?_; clear hS
 rintro _ _ ⟨b1, rfl, rfl⟩
 refine ⟨ag, fun hS => ?_⟩
 refine bF 4 rfl rfl (dC (aA mh rfl (aN (dP ho)))) ag fun hS => ?_
 refine bS 8 (by kernel_rfl) rfl rfl (eV (sz := 1) (by_ := 8) (info := Tryz.t3) dB (by kernel_rfl) rfl rfl rfl rfl (by decide) rfl rfl eC rfl rfl (by simp only [maxLen]; omega) (by omega)) rfl ?_; clear hS
 rintro _ _ ⟨a1, c1, rfl, rfl⟩
 refine ⟨ag, fun hS => ?_⟩
 refine ah 9 2 hS ?_
 refine bU 11 rfl rfl (bA pf rfl rfl rfl (by rw [List.length_set]; exact ho) set_set) ag fun hS => ?_
 refine aK ?_
 refine bT (.inr rfl) .nil ?_
 exact ⟨_, ⟨rfl, rfl⟩, l6 (its := its ++ [x]) he rfl ho (by simp)⟩
section
variable (w : World) (a : Addr)
theorem QR : (method (Tryz.prog.types.size + Made.depth) 235 (.pointer (some a)) "Len").run Tryz.prog w = .ok (112, .pointer (some a)) w := by kernel_rfl
theorem QT : (method (Tryz.prog.types.size + Made.depth) 235 (.pointer (some a)) "Less").run Tryz.prog w = .ok (497, .pointer (some a)) w := by kernel_rfl
theorem QU : (method (Tryz.prog.types.size + Made.depth) 235 (.pointer (some a)) "Swap").run Tryz.prog w = .ok (500, .pointer (some a)) w := by kernel_rfl
theorem QV : (method (Tryz.prog.types.size + Made.depth) 235 (.pointer (some a)) "Push").run Tryz.prog w = .ok (499, .pointer (some a)) w := by kernel_rfl
theorem QW : (method (Tryz.prog.types.size + Made.depth) 235 (.pointer (some a)) "Pop").run Tryz.prog w = .ok (498, .pointer (some a)) w := by kernel_rfl
end
def Fu (W0 : World) (pb w : Nat) (cs : List Value) : HpO W0 Nat where
  T := 235
  p := pS pb w
  el := fun x => .iface 3 (.int .i64 (x : Int))
  H := fun l => gj w pb (l, cs)
  fL := 112
  fE := 497
  fS := 500
  fU := 499
  fO := 498
  mL := fun u => QR u _
  mE := fun u => QT u _
  mS := fun u => QU u _
  mU := fun u => QV u _
  mO := fun u => QW u _
  cL := CV
  cE := call497
  cS := call500
  cU := call499
  cO := call498
  sL := fun R l => xS pb w l cs
  sE := fun R l i j hi hj => QN pb w l cs i j hi hj
  sS := fun R l i j hi hj => QO pb w l cs i j hi hj
  sU := fun R l x hl => QQ pb w l x cs hl
  sO := fun R l x => QP pb w l x cs
theorem QX (pb w : Nat) (its : List Nat) (x : Nat) (cs : List Value) (hN : its.length < 900) (hh : Hp.Heap its its.length) : sP W0 66 [.iface 235 (pS pb w), .iface 3 (.int .i64 (x : Int))] (gj w pb (its, cs) :: R) (fun v B => v = .tuple #[] ∧ ∃ its', B = gj w pb (its', cs) :: R ∧ its'.Perm (its ++ [x]) ∧ Hp.Heap its' its'.length) :=
 Hp.heapPush_spec (Fu W0 pb w cs) R its x hN hh
theorem QY (pb w : Nat) (its : List Nat) (cs : List Value) (hN : its.length < 900) (h0 : its ≠ []) (hh : Hp.Heap its its.length) : sP W0 113 [.iface 235 (pS pb w)] (gj w pb (its, cs) :: R) (fun v B => ∃ x its', v = .iface 3 (.int .i64 ((x : Nat) : Int)) ∧ B = gj w pb (its', cs) :: R ∧ (its' ++ [x]).Perm its ∧ Hp.Heap its' its'.length ∧ ∀ y ∈ its, (x : Int) ≤ (y : Int)) :=
 Hp.heapPop_spec (Fu W0 pb w cs) R its hN h0 hh
def gK : Value := .slice none 0 0
theorem QZ (ps : Nat) (fr : List aC) (f : Nat) (hf : f < fr.length) : sQ W0 175 [.pointer (some ⟨ps, 0, none⟩), .int .i64 f] (bu ps fr :: R) (.int .i64 0) (bu ps (fr.set f cI) :: R) := by
 have hi : dY fr.length f = true := by simp only [dY, decide_eq_true_eq]; omega
 refine ai 10 func175 ntmps175 ?_
 refine ar 9 (ao wt rfl (sT ps fr f)) ?_
 refine a8 rfl (fun c2 => ?_) fun c2 => ?_
 ·exact absurd c2 (by simp [hi])
 refine au 3 ?_
 refine sR (ps := ps) fun g => ?_
 refine au 6 ?_
 refine a7 rfl (uJ zp jR zeroValue257 rfl) ?_
 refine a7 rfl (bc ud wu rfl rfl rfl hf (by first | exact Nat.zero_add _ | rfl)) ?_
 refine aE 8 (ed wu rfl rfl rfl rfl (by rw [Ez]; omega) (Ey (y := cI) hf rfl)) ?_
 refine ae ?_
 exact ⟨_, ⟨rfl, rfl⟩, nq rfl (by simp)⟩
theorem tj (pb ps : Nat) (po : Po) (h0 : 0 < po.length) : sQ W0 91 [.pointer (some ⟨pb, 0, none⟩)] (cJ pb (ps, po) :: R) (.bool false) (cJ pb (ps, po) :: R) := by
 refine Fs fun a c vs Ls hv hL => ?_
 refine ai 10 func91 ntmps91 ?_
 refine bB rfl rfl rfl (fun g1_3 => ?_) fun g1_3 => ?_
 ·cases g1_3
 refine au 16 ?_
 refine ae ?_
 exact ⟨_, ⟨by simp [bz, show po ≠ [] from fun e => by subst e; simp at h0], rfl⟩, tf rfl hv hL rfl rfl⟩
theorem B8 (pb ps : Nat) (po : Po) (f : Int) : sQ W0 92 [.pointer (some ⟨pb, 0, none⟩), .int .i64 f] (cJ pb (ps, po) :: R) (.bool (dY po.length f)) (cJ pb (ps, po) :: R) := by
  refine Fs fun a c vs Ls hv hL => ?_
  refine ai 10 func92 ntmps92 ?_
  refine cp rfl rfl rfl (fun g1_3 => ?_) fun g1_3 => ?_
  · refine au 18 ?_
    refine ae ?_
    refine ⟨_, ⟨?_, rfl⟩, tf rfl hv hL rfl rfl⟩
    refine congrArg Value.bool ?_
    rw [Bool.eq_iff_iff, dY, decide_eq_true_iff]
    first
      | (rw [decide_eq_true_iff]; constructor <;> (intro q; omega))
      | (constructor
         · intro q; first | omega | (cases q)
         intro q; omega)
  refine au 11 ?_
  refine ae ?_
  refine ⟨_, ⟨?_, rfl⟩, tf rfl hv hL rfl rfl⟩
  refine congrArg Value.bool ?_
  rw [Bool.eq_iff_iff, dY, decide_eq_true_iff]
  first
    | (rw [decide_eq_true_iff]; constructor <;> (intro q; omega))
    | (constructor
       · intro q; first | omega | (cases q)
       intro q; omega)
def mG (w : Int) : Bool := decide (0 ≤ w ∧ w < 16)
theorem xT (w : Int) : sQ W0 93 [.int .i64 w] R (.bool (mG w)) R := by
  refine ai 10 func93 ntmps93 ?_
  refine cp rfl rfl rfl (fun g1_3 => ?_) fun g1_3 => ?_
  · refine au 8 ?_
    refine ae ?_
    refine aR ?_
    refine congrArg Value.bool ?_
    rw [Bool.eq_iff_iff, mG, decide_eq_true_iff]
    first
      | (rw [decide_eq_true_iff]; constructor <;> (intro q; omega))
      | (constructor
         · intro q; first | omega | (cases q)
         intro q; omega)
  refine au 6 ?_
  refine ae ?_
  refine aR ?_
  refine congrArg Value.bool ?_
  rw [Bool.eq_iff_iff, mG, decide_eq_true_iff]
  first
    | (rw [decide_eq_true_iff]; constructor <;> (intro q; omega))
    | (constructor
       · intro q; first | omega | (cases q)
       intro q; omega)
theorem R0 : ∀ n : Nat, (List.replicate n ((-1 : Int), false)).flatMap dS = (List.replicate n [Value.int .i64 (-1), .bool false]).flatten
 | 0 => rfl
 | n + 1 => by rw [List.replicate_succ, List.flatMap_cons, R0 n, List.replicate_succ, List.flatten_cons]
theorem R8 (n : Nat) : (List.replicate n ((-1 : Int), false)).flatMap dS ++ [[Value.int .i64 (-1), .bool false]].flatten = (List.replicate (n + 1) ((-1 : Int), false)).flatMap dS := by
 rw [List.replicate_succ', List.flatMap_append]; rfl
theorem Fv {R : List HP} : ∀ n : Nat, Ent R (kH 2 (cn (((List.replicate n gK).zip (List.replicate n ([] : List Nat))).map dK)) :: R)
 | 0 => py (A := [])
 | n + 1 => by
  have ih := Fv (R := R) n
  refine ih.trans ?_
  refine (px (A := ((List.replicate n gK).zip (List.replicate n ([] : List Nat))).map dK) (R := R)).trans ?_
  refine (fR (E := 3) (sz := 1) (B := ((List.replicate n gK).zip (List.replicate n ([] : List Nat))).map dK ++ R)).trans ?_
  exact py (A := dK (gK, []) :: ((List.replicate n gK).zip (List.replicate n ([] : List Nat))).map dK) (R := R)
theorem R9 (ps : Nat) (fr : List aC) (h0 : 0 < fr.length) (h32 : fr.length ≤ 32) : sP W0 32 [.pointer (some ⟨ps, 0, none⟩)] (bu ps fr :: R) (fun v B => ∃ pb, v = .tuple #[.pointer (some ⟨pb, 0, none⟩), .int .i64 0] ∧ B = cJ pb (ps, List.replicate fr.length (-1, false)) :: bu ps fr :: R) := by
 refine ai 10 func32 ntmps32 ?_
 refine ar 3 (ao uh rfl (qU ps fr)) ?_
 refine a8 rfl (fun c1 => ?_) fun c1 => ?_
 ·omega
 refine au 5 ?_
 refine a7 rfl (bq ZM zeroValue208 (am zj (am J7 (am sizeOf206 bj))) (aI rfl zj rfl rfl (Nat.le_of_ble_eq_true rfl) SetL.eq bi)) ?_
 refine ax (aV rfl) fun pb => ?_
 refine au 7 ?_
 refine ar 4 (ao uh rfl (qU ps fr)) ?_
 refine ge (fun X : Nat × Option Addr × Nat => X.1 ≤ fr.length) (fun X => [(4, .pointer (some ⟨pb, 0, none⟩)), (12, .int .i64 (fr.length : Nat)), (13, .int .i64 X.1)]) (fun X => pt pb (ac (ek ps (.slice X.2.1 X.1 X.2.2) (List.replicate 16 gK)) 208) :: osl 210 2 (.slice X.2.1 X.1 X.2.2) ((List.replicate X.1 ((-1 : Int), false)).flatMap dS) :: bu ps fr :: R) (fun X => fr.length - X.1) (0, none, 0) ?_ ?_ ?_ ?_
 ·exact Nat.zero_le _
 ·repeat (first | exact dy | refine db rfl ?_)
 ·exact (Ent.ofPerm (List.Perm.swap _ _ _)).trans (Ent.cons (fR (E := 210) (sz := 2)))
 intro ⟨i, a2, c2⟩ hi
 dsimp only at hi ⊢
 refine au 6 ?_
 refine a8 rfl (fun c5 => ?_) fun c5 => ?_
 ·refine au 10 ?_
  refine a7 rfl (bq ue a0d (am aj (am bI bj)) (aI rfl aj rfl rfl (Nat.le_of_ble_eq_true rfl) SetL.eq bi)) ?_
  refine ax (iM qx ui a0d rfl (eW rfl rfl gZ) rfl (by decide) (by decide) (by decide)) fun b2 => ?_
  refine aB rfl (eV (sz := 2) (by_ := 16) (info := Tryz.t210) qx (by kernel_rfl) rfl rfl rfl rfl (by decide) rfl rfl eC rfl rfl (by simp only [maxLen]; omega) (by omega)) ?_
  rintro _ _ ⟨a3, c3, rfl, rfl⟩
  refine au 2 ?_
  refine aE 4 (bA J7 rfl rfl rfl (Nat.le_of_ble_eq_true rfl) SetL.eq) ?_
  refine ap 3 (cM rfl rfl) ?_
  refine bZ (i + 1, a3, c3) ?_ (hμ := ?_) (he := ?_)
  ·show i + 1 ≤ fr.length; omega
  ·show fr.length - (i + 1) < fr.length - i; omega
  dsimp only
  rw [← R8]
  exact inferInstance
 refine au 13 ?_
 refine aJ ?_
 obtain rfl : i = fr.length := by omega
 refine ⟨_, ⟨pb, rfl, rfl⟩, ?_⟩
 exact (Ent.cons (Ent.cons (Fv (R := bu ps fr :: R) 16))).trans (tf (a := a2) (c := c2) rfl (by simp) (LsOk.new _) (by simp) rfl)
theorem Fw (pb ps : Nat) (po : Po) (fr : List aC) (f w : Nat) (t : Bool) (hf : f < po.length) (hff : f < fr.length) (hw : w < 16) (hP : PoOk po) (ha : cD po f = ((w : Int), t)) (a : Option Addr) (c : Nat) (vs : List Value) (Ls : List (List Nat)) (hv : vs.length = 16) (hL : LsOk (po.set f (-1, false)) Ls) : sQ W0 94 [.pointer (some ⟨pb, 0, none⟩), .int .i64 f] (pt pb (ac (ek ps (.slice a po.length c) vs) 208) :: osl 210 2 (.slice a po.length c) (po.flatMap dS) :: kH 2 (cn ((vs.zip Ls).map dK)) :: bu ps fr :: R) (.int .i64 0) (cJ pb (ps, po.set f ((w : Int), false)) :: bu ps (fr.set f cI) :: R) := by
 have hrow := hL.row w hw
 have hP1 : PoOk (po.set f (-1, false)) := ⟨by rw [List.length_set]; exact hP.len, fun g hg => by
  rw [List.length_set] at hg
  rw [ir hf]
  split
  ·exact ⟨by decide, by decide, fun _ => rfl⟩
  exact hP.who g hg⟩
 have hrl := hL.rlen hP1 hw
 have hown := Qs (po := po.set f (-1, false)) (f := f) (w := w) (by rw [List.length_set]; exact hf) (by rw [ir hf, if_pos rfl]; intro e; have := (Prod.mk.inj e).1; omega)
 rw [List.set_set] at hown
 have hoth : ∀ u, u < 16 → u ≠ w → bP (po.set f ((w : Int), false)) u = bP (po.set f (-1, false)) u := fun u hu hne => by
  have := AW (po := po.set f (-1, false)) (f := f) (x := ((w : Int), false)) (w := u) (by rw [List.length_set]; exact hf) (by rw [ir hf, if_pos rfl]; intro e; have := (Prod.mk.inj e).1; omega) (by intro e; have := (Prod.mk.inj e).1; omega)
  rw [List.set_set] at this
  exact this
 have hset : (po.set f ((cD po f).1, false)) = po.set f ((w : Int), false) := by rw [ha]
 refine ai 6 func94 ntmps94 ?_
 refine fK (r := osl 210 2) (b := .slice a po.length c) (jW (fun h1 h2 => by have := congrArg List.length h2; rw [l8] at this; simp at this; omega) fun g n cap sp h1 h2 h3 h4 h5 => ?_)
 cases h1
 refine au 6 ?_
 refine a7 rfl (bc qx ui rfl rfl rfl hf (by first | exact Nat.zero_add _ | rfl)) ?_
 refine a7 rfl (jV ue bI) ?_
 refine aE 3 (bA bI rfl rfl rfl (by rw [List.length_append, l8]; omega) (Ft po sp f false hf)) ?_
 rw [hset]
 refine gD (B := pt g (ac ((po.set f ((w : Int), false)).flatMap dS ++ sp) 210) :: gj w pb (Ls.getD w [], ek ps (.slice (some ⟨g, 0, none⟩) po.length c) vs) :: kH 3 (cn (((vs.zip Ls).map dK).eraseIdx w)) :: bu ps fr :: R) ?_ ?_
 ·refine Ent.cons ?_
  exact xO hw hv hL.len
 have hg0 : ((po.set f ((w : Int), false)).flatMap dS ++ sp)[f * 2 + 0]? = some (.int .i64 ((w : Nat) : Int)) := by
  rw [B7 _ _ _ _ (by rw [List.length_set]; exact hf) (by decide), ir hf, if_pos rfl]; rfl
 have hgl : ((po.set f ((w : Int), false)).flatMap dS ++ sp).length = c * 2 := by
  rw [List.length_append, l8, List.length_set] at *; omega
 refine aU [(pb, 1, [.slice (some ⟨g, 0, none⟩) po.length c]), (g, 0, _)] 16 aT rfl (cR (AZ (T := 208) (E := 3) (sz := 1) (f := j7) (o := 2 + w * 1) (by omega) rfl) (aa ag)) (fun hS => ?_)
 refine ah 0 4 hS ?_
 refine av 4 rfl rfl rfl hS (aA IS rfl (io (k := 0) (j := 0) rfl rfl)) ?_
 refine ah 5 1 hS ?_
 refine av 6 rfl rfl rfl hS (bc qx ui rfl rfl rfl hf (by first | exact Nat.zero_add _ | rfl)) ?_
 refine ah 7 1 hS ?_
 refine av 8 rfl rfl rfl hS (aA aX rfl (dv (k := 1) rfl hg0)) ?_
 refine ah 9 2 hS ?_
 refine av 11 rfl rfl rfl hS (dI zy zA rfl rfl rfl hw (by first | exact Nat.zero_add _ | rfl)) ?_
 refine av 12 rfl rfl rfl hS (fY a0e (fun _ h => nomatch h) rfl) ?_
 refine ah 13 1 hS ?_
 refine av 14 rfl rfl rfl hS (fY cW (fun _ h => nomatch h) rfl) ?_
 refine bS 15 (by kernel_rfl) rfl rfl (ao zB rfl (QX pb w (Ls.getD w []) f (ek ps (.slice (some ⟨g, 0, none⟩) po.length c) vs) (by omega) hrow.2)) rfl ?_; clear hS
 rintro _ _ ⟨rfl, l', rfl, hp, hh⟩
 refine ⟨(cR (AZ (T := 208) (E := 3) (sz := 1) (f := j7) (o := 2 + w * 1) (by omega) rfl) (aa ag)), fun hS => ?_⟩
 refine aK ?_
 refine au 2 ?_
 refine gD (B := cJ pb (ps, po.set f ((w : Int), false)) :: bu ps fr :: R) ?_ ?_
 ·have e := eB (E := 210) (sz := 2) (g := g) (n := po.length) (cap := c) (xs := (po.set f ((w : Int), false)).flatMap dS) (sp := sp) (A := pt g (ac ((po.set f ((w : Int), false)).flatMap dS ++ sp) 210) :: kH 3 (cn (((vs.zip Ls).map dK).eraseIdx w)) :: bu ps fr :: R) (B := kH 3 (cn (((vs.zip Ls).map dK).eraseIdx w)) :: bu ps fr :: R) h2 h3 (by rw [l8, List.length_set]) hgl
  refine (Ent.cons e).trans ?_
  exact xP hw hv rfl (by simp) hL.len (hL.set hw (hp.trans ((hrow.1.append_right [f]).trans hown)) hh hoth)
 refine te (pb := pb) fun a2 c2 vs2 Ls2 hv2 hL2 => ?_
 refine au 6 ?_
 refine ar 4 (ao call175 rfl (QZ ps fr f hff)) ?_
 refine ae ?_
 exact ⟨_, ⟨rfl, rfl⟩, tf rfl hv2 hL2 (by simp) rfl⟩
theorem Ra (pb ps : Nat) (po : Po) (fr : List aC) (f w : Nat) (hf : f < po.length) (hff : f < fr.length) (hw : w < 16) (hP : PoOk po) (ha : cD po f = (-1, false)) : sQ W0 35 [.pointer (some ⟨pb, 0, none⟩), .int .i64 f, .int .i64 w] (cJ pb (ps, po) :: bu ps fr :: R) (.int .i64 0) (cJ pb (ps, po.set f ((w : Int), false)) :: bu ps (fr.set f cI) :: R) := by
 have hi : dY po.length f = true := by simp only [dY, decide_eq_true_eq]; omega
 have hw' : mG w = true := by simp only [mG, decide_eq_true_eq]; omega
 have h0 : po.set f (-1, false) = po := by
  have : cD po f = po[f] := by simp [cD, List.getD, hf]
  rw [← ha, this]; exact List.set_getElem_self _
 refine ai 10 func35 ntmps35 ?_
 refine ar 3 (ao wy rfl (tj pb ps po (by omega))) ?_
 refine a8 rfl (fun c1 => ?_) fun c1 => ?_
 ·exact absurd c1 (by decide)
 refine au 5 ?_
 refine ar 4 (ao JI rfl (B8 pb ps po f)) ?_
 refine a8 rfl (fun c3 => ?_) fun c3 => ?_
 ·exact absurd c3 (by simp [hi])
 refine au 2 ?_
 refine ar 4 (aD CW rfl (xT w)) ?_
 refine a8 rfl (fun c4 => ?_) fun c4 => ?_
 ·exact absurd c4 (by simp [hw'])
 refine bD ?_
 refine te (pb := pb) fun a c vs Ls hv hL => ?_
 refine fK (r := osl 210 2) (b := .slice a po.length c) (jW (fun h1 h2 => by have := congrArg List.length h2; rw [l8] at this; simp at this; omega) fun g n cap sp h1 h2 h3 h4 h5 => ?_)
 cases h1
 refine au 6 ?_
 refine a7 rfl (bc qx ui rfl rfl rfl hf (by first | exact Nat.zero_add _ | rfl)) ?_
 refine a7 rfl (jV ue aj) ?_
 refine ap 4 (aA aX rfl (aN ((B7 po sp f 0 hf (by decide)).trans (by rw [ha]; rfl)))) ?_
 refine a8 rfl (fun c6 => ?_) fun c6 => ?_
 ·exact absurd c6 (by decide)
 refine au 11 ?_
 refine a7 rfl (bc qx ui rfl rfl rfl hf (by first | exact Nat.zero_add _ | rfl)) ?_
 refine a7 rfl (jV ue aj) ?_
 refine aE 3 (bA aj rfl rfl rfl (by rw [List.length_append, l8]; omega) (QM po sp f (w : Int) hf)) ?_
 rw [ha]
 refine gD (B := pt pb (ac (ek ps (.slice (some ⟨g, 0, none⟩) (po.set f ((w : Int), false)).length c) vs) 208) :: osl 210 2 (.slice (some ⟨g, 0, none⟩) (po.set f ((w : Int), false)).length c) ((po.set f ((w : Int), false)).flatMap dS) :: kH 2 (cn ((vs.zip Ls).map dK)) :: bu ps fr :: R) ?_ ?_
 ·rw [List.length_set]
  have e := eB (E := 210) (sz := 2) (g := g) (n := po.length) (cap := c) (xs := (po.set f ((w : Int), false)).flatMap dS) (sp := sp) (A := pt g (ac ((po.set f ((w : Int), false)).flatMap dS ++ sp) 210) :: kH 2 (cn ((vs.zip Ls).map dK)) :: bu ps fr :: R) (B := kH 2 (cn ((vs.zip Ls).map dK)) :: bu ps fr :: R) h2 h3 (by rw [l8, List.length_set]) (by rw [List.length_append, l8] at h5 ⊢; rw [List.length_set]; exact h5)
  exact (inferInstance : Ent _ (pt pb (ac (ek ps (.slice (some ⟨g, 0, none⟩) po.length c) vs) 208) :: pt g (ac ((po.set f ((w : Int), false)).flatMap dS ++ sp) 210) :: kH 2 (cn ((vs.zip Ls).map dK)) :: bu ps fr :: R)).trans (Ent.cons e)
 refine au 3 ?_
 refine ar 4 (kV call94 rfl (Fw pb ps (po.set f ((w : Int), false)) fr f w false (by rw [List.length_set]; exact hf) hff hw (hP.set hf (by simp) (by simp; omega)) (by rw [ir hf, if_pos rfl]) (some ⟨g, 0, none⟩) c vs Ls hv (by rw [List.set_set, h0]; exact hL))) ?_
 refine ae ?_
 rw [List.set_set]
 exact ⟨_, ⟨rfl, rfl⟩, inferInstance⟩
theorem Rb (pb ps : Nat) (po : Po) (w : Nat) (h0 : 0 < po.length) (hw : w < 16) : sQ W0 199 [.pointer (some ⟨pb, 0, none⟩), .int .i64 w] (cJ pb (ps, po) :: R) (.int .i64 ((bP po w).length : Nat)) (cJ pb (ps, po) :: R) := by
 have hw' : mG w = true := by simp only [mG, decide_eq_true_eq]; omega
 refine ai 9 func199 ntmps199 ?_
 refine aM (ao wy rfl (tj pb ps po h0)) ?_
 refine a7 rfl (aH rfl) ?_
 refine bB rfl rfl rfl (fun g1_3 => ?_) fun g1_3 => ?_
 ·exact absurd g1_3 (by decide)
 refine au 2 ?_
 refine ar 5 (aD CW rfl (xT w)) ?_
 refine a8 rfl (fun c1 => ?_) fun c1 => ?_
 ·exact absurd c1 (by simp [hw'])
 refine au 3 ?_
 refine te (pb := pb) fun a c vs Ls hv hL => ?_
 have hrow := hL.row w hw
 refine gD (B := gj w pb (Ls.getD w [], ek ps (.slice a po.length c) vs) :: kH 3 (cn (((vs.zip Ls).map dK).eraseIdx w)) :: osl 210 2 (.slice a po.length c) (po.flatMap dS) :: R) ?_ ?_
 ·exact (Ent.cons (Ent.ofPerm (List.Perm.swap _ _ _))).trans (xO hw hv hL.len)
 refine au 5 ?_
 refine a7 rfl (dI zy zA rfl rfl rfl hw (by first | exact Nat.zero_add _ | rfl)) ?_
 refine ar 4 (ao CV rfl (xS pb w (Ls.getD w []) (ek ps (.slice a po.length c) vs))) ?_
 refine ae ?_
 rw [hrow.1.length_eq]
 have hLs : Ls.set w (Ls.getD w []) = Ls := by
  rw [show Ls.getD w [] = Ls[w]'(by rw [hL.len]; exact hw) by simp [List.getD, hL.len, hw]]; exact List.set_getElem_self _
 refine ⟨_, ⟨rfl, rfl⟩, ?_⟩
 exact (Ent.cons (Ent.ofPerm (List.Perm.swap _ _ _))).trans (xP hw hv rfl rfl hL.len (by rw [hLs]; exact hL))
theorem Fx (pb ps : Nat) (po : Po) (w f : Nat) (l : List Nat) (hw : w < 16) (hP : PoOk po) (he : bP po w = f :: l) : sQ W0 48 [.pointer (some ⟨pb, 0, none⟩), .int .i64 w] (cJ pb (ps, po) :: R) (.tuple #[.int .i64 f, .int .i64 0]) (cJ pb (ps, po.set f ((w : Int), true)) :: R) := by
 have hw' : mG w = true := by simp only [mG, decide_eq_true_eq]; omega
 have hf := jr.1 (show f ∈ bP po w by rw [he]; simp)
 refine ai 11 func48 ntmps48 ?_
 refine ar 3 (ao wy rfl (tj pb ps po (by omega))) ?_
 refine a8 rfl (fun c1 => ?_) fun c1 => ?_
 ·exact absurd c1 (by decide)
 refine au 3 ?_
 refine ar 4 (aD CW rfl (xT w)) ?_
 refine a8 rfl (fun c3 => ?_) fun c3 => ?_
 ·exact absurd c3 (by simp [hw'])
 refine bD ?_
 refine te (pb := pb) fun a c vs Ls hv hL => ?_
 have hrow := hL.row w hw
 have hrl := hL.rlen hP hw
 refine gD (B := gj w pb (Ls.getD w [], ek ps (.slice a po.length c) vs) :: kH 3 (cn (((vs.zip Ls).map dK).eraseIdx w)) :: osl 210 2 (.slice a po.length c) (po.flatMap dS) :: R) ?_ ?_
 ·exact (Ent.cons (Ent.ofPerm (List.Perm.swap _ _ _))).trans (xO hw hv hL.len)
 refine au 5 ?_
 refine a7 rfl (dI zy zA rfl rfl rfl hw (by first | exact Nat.zero_add _ | rfl)) ?_
 refine ar 4 (ao CV rfl (xS pb w (Ls.getD w []) (ek ps (.slice a po.length c) vs))) ?_
 refine a8 rfl (fun c5 => ?_) fun c5 => ?_
 ·exact absurd c5 (by rw [hrow.1.length_eq, he, List.length_cons]; omega)
 refine au 9 ?_
 refine a7 rfl (dI zy zA rfl rfl rfl hw (by first | exact Nat.zero_add _ | rfl)) ?_
 refine a7 rfl (fY a0e (fun _ h => nomatch h) rfl) ?_
 refine aB rfl (ao zC rfl (QY pb w (Ls.getD w []) (ek ps (.slice a po.length c) vs) (by omega) (fun e => by rw [e] at hrow; have := hrow.1.length_eq; rw [he] at this; simp at this) hrow.2)) ?_
 rintro _ _ ⟨x, l', rfl, rfl, hp, hh, hm⟩
 have hpp := hp.trans hrow.1
 have hmm : ∀ y ∈ bP po w, x ≤ y := fun y hy => by have := hm y (hrow.1.mem_iff.2 hy); omega
 have hx := AX hpp hmm
 have hr := Qt hpp hmm
 rw [he] at hx
 obtain ⟨rfl, _⟩ := List.cons.inj hx
 have hk : LsOk (po.set f ((w : Int), true)) (Ls.set w l') := hL.set hw hr hh fun u hu hne => AW hf.1 (by rw [hf.2]; intro e; have := (Prod.mk.inj e).1; omega) (by intro e; have := (Prod.mk.inj e).2; cases this)
 refine ap 4 (pE cW (fun _ h => nomatch h) rfl) ?_
 refine fK (r := osl 210 2) (b := .slice a po.length c) (jW (fun h1 h2 => by have := congrArg List.length h2; rw [l8] at this; simp at this; omega) fun g n cap sp h1 h2 h3 h4 h5 => ?_)
 cases h1
 refine au 4 ?_
 refine a7 rfl (aA IS rfl (vf (T := 208) (E := 3) (sz := 1) (f := j7) (o := 2 + w * 1) (by omega) rfl)) ?_
 refine a7 rfl (aH rfl) ?_
 refine a7 rfl (bc qx ui rfl rfl rfl hf.1 (by first | exact Nat.zero_add _ | rfl)) ?_
 refine a7 rfl (jV ue bI) ?_
 refine aE 10 (bA bI rfl rfl rfl (by rw [List.length_append, l8]; omega) (Ft po sp f true hf.1)) ?_
 refine aJ ?_
 rw [hf.2]
 refine ⟨_, ⟨rfl, rfl⟩, ?_⟩
 have e := eB (E := 210) (sz := 2) (g := g) (n := po.length) (cap := c) (xs := (po.set f ((w : Int), true)).flatMap dS) (sp := sp) (A := pt g (ac ((po.set f ((w : Int), true)).flatMap dS ++ sp) 210) :: kH 3 (cn (((vs.zip Ls).map dK).eraseIdx w)) :: R) (B := kH 3 (cn (((vs.zip Ls).map dK).eraseIdx w)) :: R) h2 h3 (by rw [l8, List.length_set]) (by rw [List.length_append, l8] at h5 ⊢; rw [List.length_set]; exact h5)
 exact (inferInstance : Ent _ (gj w pb (l', ek ps (.slice (some ⟨g, 0, none⟩) po.length c) vs) :: pt g (ac ((po.set f ((w : Int), true)).flatMap dS ++ sp) 210) :: kH 3 (cn (((vs.zip Ls).map dK).eraseIdx w)) :: R)).trans ((Ent.cons e).trans (xP hw hv rfl (by simp) hL.len hk))
def wV (w : Nat) : Value := .int .u32 (w : Int)
structure Dsc where
  addr : Nat
  len : Nat
  flags : Nat
  next : Nat
structure Rg3 where
  desc : Nat
  avail : Nat
  used : Nat
  n : Int
def fF (x : Int × Int × Int) : List Value := [.int .i64 x.1, .int .i64 x.2.1, .int .i64 x.2.2]
structure WF (W0 : World) (fn : FuncId) (cs : List Value) (n : Nat) (C : Nat → HP) (w : Nat → Bool) : Prop where
  call : ∀ args u, (callFunc fn args).run Tryz.prog u = .ok (.enter fn args) u
  spec : ∀ i, i < n → ∀ R, bN Tryz.prog W0 fn ([] ++ [.int .i64 (i : Int)] ++ cs) (kH 0 (C i) :: R) (fun v B => v = .bool (w i) ∧ B = kH 0 (C (i + 1)) :: R)
def kG (w : Nat → Bool) (n : Nat) : Bool := (List.range n).any w
theorem tp {w : Nat → Bool} {n i : Nat} (hi : i < n) (h : w i = true) : kG w n = true := List.any_eq_true.2 ⟨i, List.mem_range.2 hi, h⟩
theorem vj {w : Nat → Bool} {n : Nat} (h : ∀ i, i < n → w i = false) : kG w n = false := by
 rw [← Bool.not_eq_true]; intro q
 obtain ⟨i, hi, hw⟩ := List.any_eq_true.1 q
 rw [h i (List.mem_range.1 hi)] at hw; cases hw
def nB (w : Nat → Bool) (n : Nat) : Option Nat := (List.range n).find? w
theorem Rc (w : Nat → Bool) (n : Nat) : (nB w n).isSome = kG w n := by
 rw [Bool.eq_iff_iff, nB, List.find?_isSome, kG, List.any_eq_true]
theorem Fy {w : Nat → Bool} {n i : Nat} (hi : i < n) (h : w i = true) (hj : ∀ j, j < i → w j = false) : nB w n = some i := by
 rw [nB, List.find?_eq_some_iff_getElem]
 exact ⟨h, i, by simpa using hi, by simp, fun j h2 => by simp [hj j h2]⟩
theorem Fz {w : Nat → Bool} {n : Nat} (h : ∀ i, i < n → w i = false) : nB w n = none := by
 rw [nB, List.find?_eq_none]
 intro i hi; rw [h i (List.mem_range.1 hi)]; decide
theorem Re (fn : FuncId) (cs : List Value) (n : Nat) (C : Nat → HP) (w : Nat → Bool) (hw : WF W0 fn cs n C w) (hn : n ≤ 1000) : sQ W0 258 [.int .i64 (n : Int), .func (.func fn) #[] cs.toArray] (kH 0 (C 0) :: R) (.tuple #[.int .i64 (((nB w n).getD 0 : Nat) : Int), .bool (nB w n).isSome]) R := by
 refine ai 14 func258 ntmps258 ?_
 refine cY (fun i : Nat => i ≤ n ∧ ∀ j, j < i → w j = false) (fun i => [(1, .func (.func fn) #[] cs.toArray), (7, .int .i64 (n : Int)), (8, .int .i64 (i : Int))]) (fun i => kH 0 (C i) :: R) (fun i => n - i) 0 ?_ ?_
 ·exact ⟨Nat.zero_le _, fun j hj => absurd hj (Nat.not_lt_zero _)⟩
 intro i ⟨hi, hj⟩
 refine au 6 ?_
 refine a8 rfl (fun c2 => ?_) fun c2 => ?_
 ·refine au 11 ?_
  have hi1 : i < n := by omega
  refine au 3 ?_
  refine ar 2 (qL (us := []) (cs := cs) rfl hw.call rfl (hw.spec i hi1 _)) ?_
  refine a8 rfl (fun c4 => ?_) fun c4 => ?_
  ·refine au 13 ?_
   refine aJ ?_
   rw [Fy hi1 c4 hj]
   exact ⟨_, ⟨rfl, rfl⟩, inferInstance⟩
  refine au 4 ?_
  refine ap 3 (cM rfl rfl) ?_
  refine bZ (i + 1) ?_
  ·refine ⟨by omega, fun j h => ?_⟩
   rcases Nat.lt_or_ge j i with q | q
   ·exact hj j q
   rw [show j = i by omega]; simpa using c4
 refine au 12 ?_
 refine aJ ?_
 obtain rfl : i = n := by omega
 rw [Fz hj]
 exact ⟨_, ⟨rfl, rfl⟩, inferInstance⟩
theorem FA (fn : FuncId) (cs : List Value) (n : Nat) (C : Nat → HP) (w : Nat → Bool) (hw : WF W0 fn cs n C w) (hn : n ≤ 1000) : sP W0 258 [.int .i64 (n : Int), .func (.func fn) #[] cs.toArray] (kH 0 (C 0) :: R) (fun v B => ∃ r, v = .tuple #[.int .i64 r, .bool (kG w n)] ∧ B = R) :=
 hJ (Re fn cs n C w hw hn) fun v B hB => by
  obtain ⟨rfl, rfl⟩ := hB
  rw [Rc]
  exact ⟨_, ⟨_, rfl, rfl⟩, ent_refl⟩
def fh (l cats : Int) : Bool := decide (0 ≤ cats ∧ cats ≤ 8) && kF l && decide (kQ .i64 l cats = 0)
theorem B9 (l cats : Int) : sQ W0 260 [.int .i64 l, .int .i64 cats] R (.bool (fh l cats)) R := by
 refine ai 15 func260 ntmps260 ?_
 refine a8 rfl (fun c1 => ?_) fun c1 => ?_
 ·refine au 11 ?_
  refine ae ?_
  have hv : fh l cats = false := by
   rw [← Bool.not_eq_true, fh]; intro q
   simp only [Bool.and_eq_true, decide_eq_true_iff] at q
   first
    | omega
    | (have := q.1.2; simp_all)
  rw [hv]; exact ⟨_, ⟨rfl, rfl⟩, inferInstance⟩
 refine au 7 ?_
 refine a8 rfl (fun c2 => ?_) fun c2 => ?_
 ·refine au 11 ?_
  refine ae ?_
  have hv : fh l cats = false := by
   rw [← Bool.not_eq_true, fh]; intro q
   simp only [Bool.and_eq_true, decide_eq_true_iff] at q
   first
    | omega
    | (have := q.1.2; simp_all)
  rw [hv]; exact ⟨_, ⟨rfl, rfl⟩, inferInstance⟩
 refine au 2 ?_
 refine ar 4 (aD JH rfl (B3 l)) ?_
 refine a8 rfl (fun c3 => ?_) fun c3 => ?_
 ·refine au 8 ?_
  refine ae ?_
  have hv : fh l cats = false := by
   rw [← Bool.not_eq_true, fh]; intro q
   simp only [Bool.and_eq_true, decide_eq_true_iff] at q
   first
    | omega
    | (have := q.1.2; simp_all)
  rw [hv]; exact ⟨_, ⟨rfl, rfl⟩, inferInstance⟩
 refine au 7 ?_
 refine ap 5 (jC rfl rfl (by omega) rfl) ?_
 refine ae ?_
 refine aR ?_
 refine congrArg Value.bool ?_
 rw [Bool.eq_iff_iff, fh]
 simp only [Bool.and_eq_true, decide_eq_true_iff]
 constructor
 ·intro q
  refine ⟨⟨by omega, by simp_all⟩, by simpa using q⟩
 intro q
 simpa using q.2
structure Cfg where
  cats : Int
  ga : Option Addr
  gc : Nat
  gl : List (Int × Int × Int)
  ra : Option Addr
  rc : Nat
  rl : List (Int × Int × Int)
  pa : Option Addr
  pc : Nat
  pl : List (Int × Int)
  na : Option Addr
  nc : Nat
  nl : List (Int × Int)
  sa : Option Addr
  sc : Nat
  sl : List (Int × Int)
  gate : Int
  quota : Int
@[reducible] def di (c : Cfg) : List Value := [.int .i64 c.cats, .slice c.ga c.gl.length c.gc, .slice c.ra c.rl.length c.rc, .slice c.pa c.pl.length c.pc, .slice c.na c.nl.length c.nc, .slice c.sa c.sl.length c.sc, .int .i64 c.gate, .int .i64 c.quota]
def mH (cats : Int) (g : Int × Int × Int) : Bool := !(fh g.1 cats && decide (1 ≤ g.2.1 ∧ g.2.1 ≤ 8 ∧ 0 ≤ g.2.2 ∧ g.2.2 ≤ 8 - g.2.1))
theorem vk {cats : Int} {g : Int × Int × Int} : mH cats g = false ↔ fh g.1 cats = true ∧ 1 ≤ g.2.1 ∧ g.2.1 ≤ 8 ∧ 0 ≤ g.2.2 ∧ g.2.2 ≤ 8 - g.2.1 := by
 rw [mH]; simp only [Bool.not_eq_false', Bool.and_eq_true, decide_eq_true_iff]
theorem pT {cats : Int} {g : Int × Int × Int} (h : ¬ (fh g.1 cats = true ∧ 1 ≤ g.2.1 ∧ g.2.1 ≤ 8 ∧ 0 ≤ g.2.2 ∧ g.2.2 ≤ 8 - g.2.1)) : mH cats g = true := by
 rw [← Bool.not_eq_false, vk]; exact h
theorem Rf (W0 : World) (b1 : Nat) (c : Cfg) (hs : ∀ A, cG (aO W0 A) c.ga 3 fF c.gl) :
    WF W0 259 [.pointer (some ⟨b1, 0, none⟩)] c.gl.length (fun _ => cn [pt b1 (ac (di c) 35)]) (fun i => mH c.cats (c.gl.getD i (0, 0, 0))) := ⟨call259, fun i hi R => by
  refine mu ?_
  simp only [List.cons_append, List.nil_append]
  obtain ⟨cats, ga, gc, gl, ra, rc, rl, pa, pc, pl, na, nc, nl, sa, sc, sl, gate, quota⟩ := c
  dsimp only at hs hi ⊢
  obtain ⟨g, o, rfl, hc⟩ := (hs (pt b1 (ac (di ⟨cats, ga, gc, gl, ra, rc, rl, pa, pc, pl, na, nc, nl, sa, sc, sl, gate, quota⟩) 35) :: R)).at_ hi
  obtain ⟨x, hx⟩ : ∃ x, gl[i] = x := ⟨_, rfl⟩
  rw [show gl.getD i (0, 0, 0) = x by simp [List.getD, hi, hx]]
  rw [hx] at hc
  refine ai 10 func259 ntmps259 ?_
  refine a7 rfl (bc iX fQ rfl rfl rfl hi (by first | exact Nat.zero_add _ | rfl)) ?_
  refine a7 rfl (b0 CX fQ rfl hc.weak rfl) ?_
  refine ax (aS uj) fun bx => ?_
  refine eI (aF fQ rfl rfl rfl rfl rfl) ?_
  rintro _ _ rfl
  refine au 6 ?_
  refine a7 rfl (dp rfl jg rfl aj rfl (by first | exact Nat.zero_add _ | rfl)) ?_
  refine a7 rfl (aA aX rfl (aN rfl)) ?_
  refine a7 rfl (dp rfl wo rfl aj rfl (by first | exact Nat.zero_add _ | rfl)) ?_
  refine a7 rfl (aA aX rfl (aN rfl)) ?_
  refine aB rfl (aD JJ rfl (B9 x.1 cats)) ?_
  rintro _ B_ ⟨rfl, hB_⟩
  obtain rfl := hB_.symm
  refine a7 rfl (lZ rfl) (a7 rfl (bR rfl) (au 2 ?_))
  refine a8 rfl ?_ ?_
  · intro c2
    refine au 8 ?_
    refine ae ?_
    rw [pT (fun q => by simp_all)]
    exact ⟨_, ⟨rfl, rfl⟩, inferInstance⟩
  · intro c2
    refine au 3 ?_
    refine a7 rfl (dp rfl jg rfl aj rfl (by first | exact Nat.zero_add _ | rfl)) ?_
    refine a7 rfl (aA aX rfl (aN rfl)) ?_
    refine a7 rfl (kR rfl rfl) (a7 rfl (bR rfl) (au 2 ?_))
    refine a8 rfl ?_ ?_
    · intro c4
      refine au 11 ?_
      refine ae ?_
      rw [pT (fun q => by omega)]
      exact ⟨_, ⟨rfl, rfl⟩, inferInstance⟩
    · intro c4
      refine bQ ?_
      refine a7 rfl (dp rfl jg rfl aj rfl (by first | exact Nat.zero_add _ | rfl)) ?_
      refine a7 rfl (aA aX rfl (aN rfl)) ?_
      refine a7 rfl (nZ rfl rfl) (a7 rfl (bR rfl) (au 2 ?_))
      refine a8 rfl ?_ ?_
      · intro c5
        refine au 8 ?_
        refine ae ?_
        rw [pT (fun q => by omega)]
        exact ⟨_, ⟨rfl, rfl⟩, inferInstance⟩
      · intro c5
        refine au 5 ?_
        refine a7 rfl (dp rfl jg rfl aj rfl (by first | exact Nat.zero_add _ | rfl)) ?_
        refine a7 rfl (aA aX rfl (aN rfl)) ?_
        refine a7 rfl (kR rfl rfl) (a7 rfl (aH rfl) ?_)
        refine bB rfl rfl rfl ?_ ?_
        · intro g7_4
          refine au 10 ?_
          refine ae ?_
          first
            | (rw [pT (fun q => by omega)]; exact ⟨_, ⟨rfl, rfl⟩, inferInstance⟩)
            | (refine ⟨_, ⟨?_, rfl⟩, inferInstance⟩
               refine congrArg Value.bool ?_
               rw [Bool.eq_iff_iff, decide_eq_true_iff]
               constructor
               · intro q; exact pT (fun q2 => by omega)
               intro q
               apply Decidable.byContradiction
               intro q2
               rw [vk.2 ⟨by simp_all, by omega, by omega, by omega, by omega⟩] at q; cases q)
        · intro g7_4
          refine a7 rfl (dp rfl jg rfl aj rfl (by first | exact Nat.zero_add _ | rfl)) ?_
          refine cP rfl rfl (a7 rfl (aA aX rfl (aN rfl)) ?_)
          refine cP rfl rfl ?_
          refine a7 rfl (dp rfl jg rfl aj rfl (by first | exact Nat.zero_add _ | rfl)) ?_
          refine cP rfl rfl (a7 rfl (aA aX rfl (aN rfl)) ?_)
          refine cP rfl rfl ?_
          refine a7 rfl (cZ rfl rfl (aG (by omega))) ?_
          refine cP rfl rfl (a7 rfl (nZ rfl rfl) (a7 rfl (iY rfl rfl) (a7 rfl (bR rfl) (au 3 ?_))))
          refine ae ?_
          first
            | (rw [pT (fun q => by omega)]; exact ⟨_, ⟨rfl, rfl⟩, inferInstance⟩)
            | (refine ⟨_, ⟨?_, rfl⟩, inferInstance⟩
               refine congrArg Value.bool ?_
               rw [Bool.eq_iff_iff, decide_eq_true_iff]
               constructor
               · intro q; exact pT (fun q2 => by omega)
               · intro q
                 apply Decidable.byContradiction
                 intro q2
                 rw [vk.2 ⟨by simp_all, by omega, by omega, by omega, by omega⟩] at q; cases q)
  ⟩
theorem xU (fn : FuncId) (cs : List Value) (n b : Nat) (o : Obj) (w : Nat → Bool) (hw : WF W0 fn cs n (fun _ => cn [pt b o]) w) (hn : n ≤ 1000) : sP W0 258 [.int .i64 (n : Int), .func (.func fn) #[] cs.toArray] (pt b o :: R) (fun v B => ∃ r, v = .tuple #[.int .i64 r, .bool (kG w n)] ∧ B = R) :=
 xl (B := kH 0 (cn [pt b o]) :: R) (py (A := [pt b o])) (FA fn cs n (fun _ => cn [pt b o]) w hw hn)
def iu (c : Cfg) : Bool := decide (c.gl.length < 1 ∨ 4 < c.gl.length) || kG (fun i => mH c.cats (c.gl.getD i (0, 0, 0))) c.gl.length
theorem Rh (c : Cfg) (hs : ∀ A, cG (aO W0 A) c.ga 3 fF c.gl) : sP W0 178 [.agg (di c).toArray] R (fun v B => ∃ r, v = .tuple #[.int .i64 r, .bool (iu c)] ∧ B = R) := by
 obtain ⟨w, hw⟩ : ∃ w, (fun i => mH c.cats (c.gl.getD i (0, 0, 0))) = w := ⟨_, rfl⟩
 have hG : iu c = (decide (c.gl.length < 1 ∨ 4 < c.gl.length) || kG w c.gl.length) := by rw [iu, hw]
 refine ai 2 func178 ntmps178 ?_
 refine ax (aV rfl) fun b1 => ?_
 refine au 12 ?_
 refine bB rfl rfl rfl (fun g1_5 => ?_) fun g1_5 => ?_
 ·refine au 15 ?_
  refine aJ ?_
  rw [hG, decide_eq_true (by omega), Bool.true_or]
  exact ⟨_, ⟨0, rfl, rfl⟩, inferInstance⟩
 refine au 10 ?_
 refine a8 rfl (fun c1 => ?_) fun c1 => ?_
 ·refine au 8 ?_
  refine aJ ?_
  rw [hG, decide_eq_true (by omega), Bool.true_or]
  exact ⟨_, ⟨0, rfl, rfl⟩, inferInstance⟩
 refine au 7 ?_
 refine a7 rfl (dM rfl rfl) ?_
 refine aB rfl (ao zD rfl (xU 259 [.pointer (some ⟨b1, 0, none⟩)] c.gl.length b1 _ w (hw ▸ Rf W0 b1 c hs) (by omega))) ?_
 rintro _ B_ ⟨r, rfl, hB_⟩
 obtain rfl := hB_.symm
 refine au 7 ?_
 refine aJ ?_
 rw [hG, decide_eq_false (by omega), Bool.false_or]
 exact ⟨_, ⟨r, rfl, rfl⟩, inferInstance⟩
def fG (c : Cfg) (i : Int) : Bool := decide (0 ≤ i ∧ i < c.gl.length)
theorem rq (c : Cfg) (i : Int) : sQ W0 265 [.agg (di c).toArray, .int .i64 i] R (.bool (fG c i)) R := by
  refine ai 2 func265 ntmps265 ?_
  refine ax (aV rfl) fun b1 => ?_
  refine au 8 ?_
  refine cp rfl rfl rfl (fun g1_3 => ?_) fun g1_3 => ?_
  · refine au 14 ?_
    refine ae ?_
    refine aR ?_
    refine congrArg Value.bool ?_
    rw [Bool.eq_iff_iff, fG, decide_eq_true_iff]
    first
      | (rw [decide_eq_true_iff]; constructor
         · intro q; omega
         · intro q; omega)
      | (constructor
         · intro q; first | omega | (cases q)
         intro q; omega)
  refine au 9 ?_
  refine ae ?_
  refine aR ?_
  refine congrArg Value.bool ?_
  rw [Bool.eq_iff_iff, fG, decide_eq_true_iff]
  first
    | (rw [decide_eq_true_iff]; constructor
       · intro q; omega
       · intro q; omega)
    | (constructor
       · intro q; first | omega | (cases q)
       intro q; omega)
@[reducible] def fM (x : Int × Int) : List Value := [.int .i64 x.1, .int .i64 x.2]
def m9 (c : Cfg) (s : Int × Int) : Bool := !(fG c s.1 && decide (1 ≤ s.2 ∧ s.2 ≤ 32))
theorem Ri (W0 : World) (b1 : Nat) (c : Cfg) (hs : ∀ A, cG (aO W0 A) c.sa 2 fM c.sl) :
  WF W0 269 [.pointer (some ⟨b1, 0, none⟩)] c.sl.length (fun _ => cn [pt b1 (ac (di c) 35)]) (fun i => m9 c (c.sl.getD i (0, 0))) := ⟨call269, fun i hi R => by
 refine mu ?_
 simp only [List.cons_append, List.nil_append]
 obtain ⟨g, o, hga, hc⟩ := (hs (pt b1 (ac (di c) 35) :: R)).at_ hi
 obtain ⟨x, hx⟩ : ∃ x, c.sl[i] = x := ⟨_, rfl⟩
 rw [show c.sl.getD i (0, 0) = x by simp [List.getD, hi, hx]]
 rw [hx] at hc
 obtain ⟨w, hw⟩ : ∃ w, fG c x.1 = w := ⟨_, rfl⟩
 have hW : m9 c x = !(w && decide (1 ≤ x.2 ∧ x.2 ≤ 32)) := by rw [m9, hw]
 rw [hW]
 obtain ⟨cats, ga, gc, gl, ra, rc, rl, pa, pc, pl, na, nc, nl, sa, sc, sl, gate, quota⟩ := c
 dsimp only at hs hi hga hc hw ⊢
 subst hga
 refine ai 10 func269 ntmps269 ?_
 refine a7 rfl (bc CJ uk rfl rfl rfl hi (by first | exact Nat.zero_add _ | rfl)) ?_
 refine a7 rfl (b0 isAgg91 uk rfl hc.weak rfl) ?_
 refine ax (aS CY) fun bx => ?_
 refine aE 7 (aF uk rfl rfl rfl rfl rfl) ?_
 refine aM (aD ul rfl (rq ⟨cats, ga, gc, gl, ra, rc, rl, pa, pc, pl, na, nc, nl, some ⟨g, o, none⟩, sc, sl, gate, quota⟩ x.1)) ?_
 rw [hw]
 refine au 2 ?_
 refine bB rfl rfl rfl ?_ ?_
 ·intro g2_6
  refine au 12 ?_
  refine ae ?_
  refine aR ?_
  refine congrArg Value.bool ?_
  rw [Bool.eq_iff_iff]
  cases w <;> simp_all <;> omega
 ·intro g2_6
  refine au 7 ?_
  refine bB rfl rfl rfl ?_ ?_
  ·intro g2_11
   refine au 7 ?_
   refine ae ?_
   refine aR ?_
   refine congrArg Value.bool ?_
   rw [Bool.eq_iff_iff]
   cases w <;> simp_all <;> omega
  ·intro g2_11
   refine au 10 ?_
   refine ae ?_
   refine aR ?_
   refine congrArg Value.bool ?_
   rw [Bool.eq_iff_iff]
   cases w <;> simp_all <;> omega
 ⟩
def l9 (c : Cfg) : Bool := decide (c.sl.length < 1 ∨ 8 < c.sl.length) || kG (fun i => m9 c (c.sl.getD i (0, 0))) c.sl.length
theorem Rj (c : Cfg) (hs : ∀ A, cG (aO W0 A) c.sa 2 fM c.sl) : sP W0 182 [.agg (di c).toArray] R (fun v B => ∃ r, v = .tuple #[.int .i64 r, .bool (l9 c)] ∧ B = R) := by
 obtain ⟨w, hw⟩ : ∃ w, (fun i => m9 c (c.sl.getD i (0, 0))) = w := ⟨_, rfl⟩
 have hG : l9 c = (decide (c.sl.length < 1 ∨ 8 < c.sl.length) || kG w c.sl.length) := by rw [l9, hw]
 refine ai 2 func182 ntmps182 ?_
 refine ax (aV rfl) fun b1 => ?_
 refine au 12 ?_
 refine bB rfl rfl rfl (fun g1_5 => ?_) fun g1_5 => ?_
 ·refine au 15 ?_
  refine aJ ?_
  rw [hG, decide_eq_true (by omega), Bool.true_or]
  exact ⟨_, ⟨0, rfl, rfl⟩, inferInstance⟩
 refine au 10 ?_
 refine a8 rfl (fun c1 => ?_) fun c1 => ?_
 ·refine au 8 ?_
  refine aJ ?_
  rw [hG, decide_eq_true (by omega), Bool.true_or]
  exact ⟨_, ⟨0, rfl, rfl⟩, inferInstance⟩
 refine au 7 ?_
 refine a7 rfl (dM rfl rfl) ?_
 refine aB rfl (ao zD rfl (xU 269 [.pointer (some ⟨b1, 0, none⟩)] c.sl.length b1 _ w (hw ▸ Ri W0 b1 c hs) (by omega))) ?_
 rintro _ B_ ⟨r, rfl, hB_⟩
 obtain rfl := hB_.symm
 refine au 7 ?_
 refine aJ ?_
 rw [hG, decide_eq_false (by omega), Bool.false_or]
 exact ⟨_, ⟨r, rfl, rfl⟩, inferInstance⟩
def ka (c : Cfg) : Bool := if c.gate = -1 then decide (c.quota ≠ 0) else !(fG c c.gate && decide (0 ≤ c.quota ∧ c.quota ≤ 64))
theorem Rk (c : Cfg) : sQ W0 183 [.agg (di c).toArray] R (.bool (ka c)) R := by
 obtain ⟨w, hw⟩ : ∃ w, fG c c.gate = w := ⟨_, rfl⟩
 have hW : ka c = if c.gate = -1 then decide (c.quota ≠ 0) else !(w && decide (0 ≤ c.quota ∧ c.quota ≤ 64)) := by rw [ka, hw]
 rw [hW]
 refine ai 2 func183 ntmps183 ?_
 refine ax (aV rfl) fun b1 => ?_
 refine au 20 ?_
 refine a8 rfl (fun c1 => ?_) fun c1 => ?_
 ·refine au 21 ?_
  refine ae ?_
  refine aR ?_
  refine congrArg Value.bool ?_
  rw [Bool.eq_iff_iff]
  cases w <;> simp_all <;> omega
 refine au 8 ?_
 refine aM (aD ul rfl (rq c c.gate)) ?_
 rw [hw]
 refine au 4 ?_
 refine a8 rfl (fun c2 => ?_) fun c2 => ?_
 ·refine au 18 ?_
  refine ae ?_
  refine aR ?_
  refine congrArg Value.bool ?_
  rw [Bool.eq_iff_iff]
  cases w <;> simp_all <;> omega
 refine au 11 ?_
 refine a8 rfl (fun c3 => ?_) fun c3 => ?_
 ·refine au 20 ?_
  refine ae ?_
  refine aR ?_
  refine congrArg Value.bool ?_
  rw [Bool.eq_iff_iff]
  cases w <;> simp_all <;> omega
 refine au 7 ?_
 refine a8 rfl (fun c4 => ?_) fun c4 => ?_
 ·refine au 17 ?_
  refine ae ?_
  refine aR ?_
  refine congrArg Value.bool ?_
  rw [Bool.eq_iff_iff]
  cases w <;> simp_all <;> omega
 refine au 16 ?_
 refine ae ?_
 refine aR ?_
 refine congrArg Value.bool ?_
 rw [Bool.eq_iff_iff]
 cases w <;> simp_all <;> omega
def iw (c : Cfg) (i : Int) : Int := (c.gl.getD i.toNat (0, 0, 0)).1
def lJ (c : Cfg) (x : Int × Int) : Bool := !(fG c x.1 && fG c x.2 && decide (x.1 ≠ x.2) && m8 (iw c x.1) (iw c x.2))
theorem Rl (W0 : World) (b1 : Nat) (c : Cfg) (hs : ∀ A, cG (aO W0 A) c.na 2 fM c.nl) (hgs : ∀ A, cG (aO W0 A) c.ga 3 fF c.gl) :
  WF W0 267 [.pointer (some ⟨b1, 0, none⟩)] c.nl.length (fun _ => cn [pt b1 (ac (di c) 35)]) (fun i => lJ c (c.nl.getD i (0, 0))) := ⟨call267, fun i hi R => by
 refine mu ?_
 simp only [List.cons_append, List.nil_append]
 obtain ⟨g, o, hga, hc⟩ := (hs (pt b1 (ac (di c) 35) :: R)).at_ hi
 obtain ⟨x, hx⟩ : ∃ x, c.nl[i] = x := ⟨_, rfl⟩
 rw [show c.nl.getD i (0, 0) = x by simp [List.getD, hi, hx]]
 rw [hx] at hc
 obtain ⟨p, q⟩ := x
 obtain ⟨w1, hw1⟩ : ∃ w, fG c p = w := ⟨_, rfl⟩
 obtain ⟨w2, hw2⟩ : ∃ w, fG c q = w := ⟨_, rfl⟩
 have hW : lJ c (p, q) = !(w1 && w2 && decide (p ≠ q) && m8 (iw c p) (iw c q)) := by rw [lJ, hw1, hw2]
 by_cases hb : w1 = true ∧ w2 = true
 ·obtain ⟨rfl, rfl⟩ := hb
  have h1 : 0 ≤ p ∧ p < c.gl.length := of_decide_eq_true hw1
  have h2 : 0 ≤ q ∧ q < c.gl.length := of_decide_eq_true hw2
  obtain ⟨j, rfl⟩ : ∃ j : Nat, p = (j : Int) := ⟨p.toNat, by omega⟩
  obtain ⟨k, rfl⟩ : ∃ k : Nat, q = (k : Int) := ⟨q.toNat, by omega⟩
  have hj : j < c.gl.length := by omega
  have hk : k < c.gl.length := by omega
  obtain ⟨u, hu⟩ : ∃ u, c.gl[j] = u := ⟨_, rfl⟩
  obtain ⟨v, hv⟩ : ∃ v, c.gl[k] = v := ⟨_, rfl⟩
  have hl1 : iw c (j : Int) = u.1 := by rw [iw, Int.toNat_natCast]; simp [List.getD, hj, hu]
  have hl2 : iw c (k : Int) = v.1 := by rw [iw, Int.toNat_natCast]; simp [List.getD, hk, hv]
  rw [hl1, hl2] at hW
  rw [hW]
  obtain ⟨gg, og, hgg, hcj⟩ := (hgs (pt b1 (ac (di c) 35) :: R)).at_ hj
  obtain ⟨gh, oh, hgh, hck⟩ := (hgs (pt b1 (ac (di c) 35) :: R)).at_ hk
  rw [hu] at hcj
  rw [hv] at hck
  obtain ⟨cats, ga, gc, gl, ra, rc, rl, pa, pc, pl, na, nc, nl, sa, sc, sl, gate, quota⟩ := c
  dsimp only at hi hga hc hw1 hw2 hj hk hgg hgh hcj hck ⊢
  subst hga
  subst hgg
  obtain ⟨rfl, rfl⟩ : gg = gh ∧ og = oh := by cases hgh; exact ⟨rfl, rfl⟩
  refine ai 10 func267 ntmps267 ?_
  refine a7 rfl (bc rW kN rfl rfl rfl hi (by first | exact Nat.zero_add _ | rfl)) ?_
  refine a7 rfl (b0 zg kN rfl hc.weak rfl) ?_
  refine ax (aS wz) fun bx => ?_
  refine aE 8 (aF kN rfl rfl rfl rfl rfl) ?_
  refine aM (aD ul rfl (rq ⟨cats, some ⟨gg, og, none⟩, gc, gl, ra, rc, rl, pa, pc, pl, some ⟨g, o, none⟩, nc, nl, sa, sc, sl, gate, quota⟩ (j : Int))) ?_
  rw [hw1]
  refine au 2 ?_
  refine bB rfl rfl rfl (fun g2_6 => ?_) fun g2_6 => ?_
  ·exact absurd rfl g2_6
  refine au 6 ?_
  refine aM (aD ul rfl (rq ⟨cats, some ⟨gg, og, none⟩, gc, gl, ra, rc, rl, pa, pc, pl, some ⟨g, o, none⟩, nc, nl, sa, sc, sl, gate, quota⟩ (k : Int))) ?_
  rw [hw2]
  refine au 4 ?_
  refine bB rfl rfl rfl (fun g2_13 => ?_) fun g2_13 => ?_
  ·exact absurd rfl g2_13
  refine au 12 ?_
  refine a8 rfl (fun c2 => ?_) fun c2 => ?_
  ·refine au 7 ?_
   refine ae ?_
   refine aR ?_
   refine congrArg Value.bool ?_
   rw [Bool.eq_iff_iff]
   simp_all
  refine au 3 ?_
  refine aU [(b1, 0, _), (bx, 0, _), (gg, og + j * 3, fF u), (gg, og + k * 3, fF v)] 17 aT rfl (aa (aa (cR hcj.weak (cR hck.weak ag)))) (fun hS => ?_)
  refine ah 0 4 hS ?_
  refine av 4 rfl rfl rfl hS (bc iX fQ rfl rfl rfl hj (by first | exact Nat.zero_add _ | rfl)) ?_
  refine ah 5 1 hS ?_
  refine av 6 rfl rfl rfl hS (aA aX rfl (io (k := 2) (j := 0) rfl rfl)) ?_
  refine ah 7 4 hS ?_
  refine av 11 rfl rfl rfl hS (bc iX fQ rfl rfl rfl hk (by first | exact Nat.zero_add _ | rfl)) ?_
  refine ah 12 1 hS ?_
  refine av 13 rfl rfl rfl hS (aA aX rfl (io (k := 3) (j := 0) rfl rfl)) ?_
  refine bF 14 rfl rfl (aD call268 rfl (QB u.1 v.1)) (aa (aa (cR hcj.weak (cR hck.weak ag)))) fun hS => ?_
  refine ah 15 2 hS ?_
  refine aK ?_
  refine au 2 ?_
  refine ae ?_
  refine aR ?_
  refine congrArg Value.bool ?_
  rw [Bool.eq_iff_iff]
  simp_all
 ·have hW2 : lJ c (p, q) = true := by
   rw [hW]; cases w1 <;> cases w2 <;> simp_all
  rw [hW2]
  obtain ⟨cats, ga, gc, gl, ra, rc, rl, pa, pc, pl, na, nc, nl, sa, sc, sl, gate, quota⟩ := c
  dsimp only at hi hga hc hw1 hw2 ⊢
  subst hga
  refine ai 10 func267 ntmps267 ?_
  refine a7 rfl (bc rW kN rfl rfl rfl hi (by first | exact Nat.zero_add _ | rfl)) ?_
  refine a7 rfl (b0 zg kN rfl hc.weak rfl) ?_
  refine ax (aS wz) fun bx => ?_
  refine aE 8 (aF kN rfl rfl rfl rfl rfl) ?_
  refine aM (aD ul rfl (rq ⟨cats, ga, gc, gl, ra, rc, rl, pa, pc, pl, some ⟨g, o, none⟩, nc, nl, sa, sc, sl, gate, quota⟩ p)) ?_
  rw [hw1]
  refine au 2 ?_
  refine bB rfl rfl rfl ?_ ?_
  ·intro g2_6
   refine au 22 ?_
   exact ae aL
  ·intro g2_6
   refine au 6 ?_
   refine aM (aD ul rfl (rq ⟨cats, ga, gc, gl, ra, rc, rl, pa, pc, pl, some ⟨g, o, none⟩, nc, nl, sa, sc, sl, gate, quota⟩ q)) ?_
   rw [hw2]
   refine au 4 ?_
   refine bB rfl rfl rfl ?_ ?_
   ·intro g2_13
    refine au 15 ?_
    exact ae aL
   ·intro g2_13
    exfalso; cases w1 <;> cases w2 <;> simp_all
 ⟩
def hY (c : Cfg) : Bool := decide (4 < c.nl.length) || kG (fun i => lJ c (c.nl.getD i (0, 0))) c.nl.length
theorem Rm (c : Cfg) (hs : ∀ A, cG (aO W0 A) c.na 2 fM c.nl) (hgs : ∀ A, cG (aO W0 A) c.ga 3 fF c.gl) : sP W0 181 [.agg (di c).toArray] R (fun v B => ∃ r, v = .tuple #[.int .i64 r, .bool (hY c)] ∧ B = R) := by
 obtain ⟨w, hw⟩ : ∃ w, (fun i => lJ c (c.nl.getD i (0, 0))) = w := ⟨_, rfl⟩
 have hG : hY c = (decide (4 < c.nl.length) || kG w c.nl.length) := by rw [hY, hw]
 refine ai 2 func181 ntmps181 ?_
 refine ax (aV rfl) fun b1 => ?_
 refine au 13 ?_
 refine a8 rfl (fun c1 => ?_) fun c1 => ?_
 ·refine au 8 ?_
  refine aJ ?_
  rw [hG, decide_eq_true (by omega), Bool.true_or]
  exact ⟨_, ⟨0, rfl, rfl⟩, inferInstance⟩
 refine au 7 ?_
 refine a7 rfl (dM rfl rfl) ?_
 refine aB rfl (ao zD rfl (xU 267 [.pointer (some ⟨b1, 0, none⟩)] c.nl.length b1 _ w (hw ▸ Rl W0 b1 c hs hgs) (by omega))) ?_
 rintro _ B_ ⟨r, rfl, hB_⟩
 obtain rfl := hB_.symm
 refine au 7 ?_
 refine aJ ?_
 rw [hG, decide_eq_false (by omega), Bool.false_or]
 exact ⟨_, ⟨r, rfl, rfl⟩, inferInstance⟩
def en (c : Cfg) : Nat → Int
  | 0 => (c.nl.length : Int)
  | i + 1 => en c i + ((c.gl.getD i (0, 0, 0)).2.1 + (c.gl.getD i (0, 0, 0)).2.2)
theorem Ba {c : Cfg} (hb : ∀ g ∈ c.gl, 1 ≤ g.2.1 ∧ g.2.1 ≤ 8 ∧ 0 ≤ g.2.2 ∧ g.2.2 ≤ 8 - g.2.1) (hn : c.nl.length ≤ 4) : ∀ i, i ≤ c.gl.length → 0 ≤ en c i ∧ en c i ≤ 4 + 8 * i
 | 0, _ => by rw [en]; omega
 | i + 1, hi => by
  obtain ⟨h1, h2⟩ := Ba hb hn i (by omega)
  have := hb _ (List.getElem_mem (show i < c.gl.length by omega))
  rw [en, show c.gl.getD i (0, 0, 0) = c.gl[i]'(by omega) by simp [List.getD, show i < c.gl.length by omega]]
  omega
theorem Ro (c : Cfg) (hs : ∀ A, cG (aO W0 A) c.ga 3 fF c.gl) (hb : ∀ g ∈ c.gl, 1 ≤ g.2.1 ∧ g.2.1 ≤ 8 ∧ 0 ≤ g.2.2 ∧ g.2.2 ≤ 8 - g.2.1) (hn : c.nl.length ≤ 4) (hg : c.gl.length ≤ 4) : sQ W0 184 [.agg (di c).toArray] R (.int .i64 (en c c.gl.length)) R := by
 have hle := Ba hb hn
 refine ai 2 func184 ntmps184 ?_
 refine ax (aV rfl) fun b1 => ?_
 refine au 21 ?_
 refine cY (fun i : Nat => i ≤ c.gl.length) (fun i => [(3, .int .i64 (en c i)), (10, .slice c.ga c.gl.length c.gc), (11, .int .i64 (c.gl.length : Nat)), (12, .int .i64 (i : Nat))]) (fun _ => R) (fun i => c.gl.length - i) 0 ?_ ?_
 ·exact Nat.zero_le _
 intro i hi
 refine au 6 ?_
 refine a8 rfl (fun c3 => ?_) fun c3 => ?_
 ·refine au 5 ?_
  have hi1 : i < c.gl.length := by omega
  obtain ⟨g, o, hga, hc⟩ := (hs R).at_ hi1
  obtain ⟨x, hx⟩ : ∃ x, c.gl[i] = x := ⟨_, rfl⟩
  rw [hx] at hc
  have hbx := hb _ (List.getElem_mem hi1)
  rw [hx] at hbx
  have hst : en c (i + 1) = en c i + (x.2.1 + x.2.2) := by rw [en, show c.gl.getD i (0, 0, 0) = x by simp [List.getD, hi1, hx]]
  have hl1 := hle i hi
  rw [hga]
  refine bQ ?_
  refine a7 rfl (bc iX fQ rfl rfl rfl hi1 (by first | exact Nat.zero_add _ | rfl)) ?_
  refine a7 rfl (b0 CX fQ rfl hc.weak rfl) ?_
  refine ax (aS uj) fun bx => ?_
  refine eI (aF fQ rfl rfl rfl rfl rfl) ?_
  rintro _ _ rfl
  refine au 3 ?_
  refine a7 rfl (aH rfl) ?_
  refine a7 rfl (dp rfl jg rfl aj rfl (by first | exact Nat.zero_add _ | rfl)) ?_
  refine a7 rfl (aA aX rfl (aN rfl)) ?_
  refine a7 rfl (dp rfl jg rfl aj rfl (by first | exact Nat.zero_add _ | rfl)) ?_
  refine a7 rfl (aA aX rfl (aN rfl)) ?_
  refine a7 rfl (bO rfl rfl (aG (by omega))) ?_
  refine ap 5 (bO rfl rfl (by rw [aG (by omega)]; exact hst.symm : IntKind.wrap .i64 (en c i + (x.2.1 + x.2.2)) = en c (i + 1))) ?_
  refine ap 3 (cM rfl rfl) ?_
  exact bZ (i + 1) (by omega)
 refine au 12 ?_
 refine ae ?_
 obtain rfl : i = c.gl.length := by omega
 exact ⟨_, ⟨rfl, rfl⟩, inferInstance⟩
end
end Go.Proofs.YtedopnjjkddhaaaGreatDoor
