/-
  Part 6 of the proof of GuestOwn: rules, and walks of functions. Conditions: none.
-/
import Derived.Test.YtbhimdcapbflkaaGreatDoorGuestOwnE
namespace Go.Proofs.YtbhimdcapbflkaaGreatDoor
open Go.Proofs.Tryz
set_option linter.unusedSimpArgs false
set_option linter.unusedVariables false
set_option maxRecDepth 20000
set_option linter.defProp false
set_option synthInstance.maxSize 8192
set_option synthInstance.maxHeartbeats 2000000
variable {W0 : World} {R : List HP}
section
open Go.RowKit
theorem BD {pg} {n f : Nat} (a : pg.length = 12) (b : n < 8) {t} : aN (pg.set n (f, 3)) t = (aN pg t || decide (t = n)) := by
 by_cases e : t = (n : Int)
 grind [yE]
 grind [gr]
theorem GMem.come {i n f : Nat} {x} (h : GMem i x) (D : i < 16) (s : n < 8) (u : aN x.pg n = false) (g : f < x.po.length) (j : d6 x.po f = ((i : Int), false)) fr' (y : cz fr') (v : fr'.length = x.fr.length) (z : ∀ k, k ≠ f → fr'.getD k [] = x.fr.getD k []) :
    GMem i ⟨fr', dL x.pg n (f, 3), x.po.set f (i, true)⟩ ∧ fW x.pg n (f, 3) = 0 := by
 have l : f < 32 := by have := h.po.len; omega
 have A := Jt s l u
 have w : dL x.pg n ((f : Int), 3) = x.pg.set n ((f : Int), 3) := by grind [dL]
 have a := h.pg.len
 have B := (yE (p := ((f : Int), 3)) a (show n < 12 by omega) (by grind)).2
 have d : ∀ t : Int, aN x.pg t = true → (bH x.pg t).1 ≠ (f : Int) := fun t q e => by
  have m := q
  simp only [aN, Qan] at m
  obtain ⟨k, rfl, c⟩ := kz m.1
  rcases QaC k 8 with b | b
  have := h.own k b q
  rw [e, Qaf, j] at this
  have := (QcY this).2; cases this
  have := h.far k b q
  rw [e, Qaf, j] at this
  exact this rfl
 refine ⟨?_, A⟩
 rw [w]
 refine ⟨y, h.po.set g (by simp) (by simp; omega), ?_, by rw [Qap, v]; exact h.len, ?_, fun t b q => ?_, fun k c q => ?_, fun t b q => ?_, fun k c q => ?_⟩
 have := vP (n := (n : Int)) (p := ((f : Int), 3)) h.pg
 rwa [w] at this
 rw [v]
 exact h.pl.set a (by omega) (by grind) (by have := h.len; omega) fun t q e => d t q e
 dsimp only at q ⊢
 rw [BD a s] at q
 by_cases e : (t : Int) = (n : Int)
 grind [Qaf, jY]
 rw [Qal e, QcK] at q
 have o := yO h.pg q
 rw [(gr e).2, jY g, Qaa (fun r => d t q (by omega))]
 exact h.own t b q
 dsimp only at c q ⊢
 rw [Qap] at c
 rw [jY g] at q
 by_cases e : k = f
 grind [BD]
 rw [Qaa e] at q
 obtain ⟨t, b, o, C⟩ := h.all k c q
 have r : (t : Int) ≠ (n : Int) := fun r => by rw [r, u] at o; cases o
 exact ⟨t, b, by rw [BD a s, o, Qbv], by rw [(gr r).2]; exact C⟩
 dsimp only at q ⊢
 rw [BD a s] at q
 have e : (t : Int) ≠ (n : Int) := by omega
 rw [Qal e, QcK] at q
 have o := yO h.pg q
 rw [(gr e).2, jY g, Qaa (fun r => d t q (by omega))]
 exact h.far t b q
 dsimp only at c q ⊢
 rw [Qap] at c
 rw [jY g] at q
 by_cases e : k = f
 grind
 rw [Qaa e] at q
 rw [z k e]
 exact h.nul k c q
theorem a4x {fr f o w x} {k : Nat} (a : k ≠ f) : (fM fr f o w x).getD k [] = fr.getD k [] := by
 grind [fM]
theorem Md {f} : ∀ {l : List Nat} {j : Nat} {a : List aD} {k : Nat}, k ≠ f → (iX f l j a).getD k [] = a.getD k []
 | [], _, _, _, _ => rfl
 | y :: t, j, a, k, h => by rw [iX, Md h, a4x h]
def tI (x : Im) : Mm := ⟨x.fr, x.pg, x.po⟩
theorem GMem.lay {i words x} (h : GMem i (tI x)) (a : i < 16) (b : qE x.pg 0 8) : ∀ n, n ≤ 8 → n ≤ (bS x.po i).length → GMem i (tI (cI i words n x))
 | 0, _, _ => h
 | n + 1, q, r => by
  have c := h.lay (words := words) a b n (by omega) (by omega)
  have j := (Ay (who := i) (words := words) b h.pg.len n (by omega)).1 n (Qam _) (by omega)
  have d := Ax (who := i) (words := words) (x := x) n
  rw [cI, jD]
  cases e : bS (cI i words n x).po i with
  | nil => rw [e] at d; simp at d; omega
  | cons f l =>
   have g := kQ.1 (show f ∈ bS (cI i words n x).po i by rw [e]; simp)
   obtain ⟨m, o⟩ := uw (f := f) (l := e9 words n) (k := 0) c.fr
   exact (c.come a (by omega) j g.1 g.2 _ m o (fun k p => Md p)).1
abbrev yQ (g : Gu) (e w : Nat) : Gu := { g with c := ⟨qR g.c.rl e w, cP g.c.pc, g.c.cs⟩ }
abbrev BE (g : Gu) (e w : Nat) : Gu := ov (yQ g e w) 2 (bP g.c.rl 1) e g.c.pc
section
variable (W0 : World) (R : List HP) (gb : Nat) (z : Gz) (g : Gu) (N : Nat)
theorem a4y (b : g.clock < 1000000000) (a : g.c.rl.length = 16) : sQ W0 50 [pV gb] (gN gb z g R) (iQ 0) (gN gb z (ov (gY g) 4 0 0 g.c.pc) R) := by
 refine am func50 ntmps50 ?_
 refine ah (ap oG (nJ W0 _ gb z g)) ?_
 refine ar (iU (by exact rfl : (mg z g).set 8 (.bool true) = mg z (gY g))) ?_
 refine ah (ap sx (qP z.x.r g.c.rl g.c.pc a)) ?_
 refine ah (cN vh (tH W0 _ gb z (gY g) b a 4 0 0 g.c.pc)) ?_
 exact ac ao
theorem a4z (f : g.clock < 1000000000) (a : g.c.rl.length = 16) n w e (d : u32 n = e) : sQ W0 54 [pV gb, iQ n, wV w] (gN gb z g R) (iQ 0) (gN gb z (BE g e w) R) := by
 have b : (qR g.c.rl e w).length = 16 := by simp [qR, a]
 refine am func54 ntmps54 ?_
 refine ah (ap oG (nJ W0 _ gb z g)) ?_
 refine ah (ap O9 (EE z.x.r g.c.rl g.c.pc 1 a (by decide))) ?_
 refine ah (ap sx (qP z.x.r g.c.rl g.c.pc a)) ?_
 refine aa (bG (by rw [d8, d] : IntKind.wrap .u32 n = ((e : Nat) : Int))) ?_
 refine ah (ap Cy (Ev W0 _ z.x.r g.c.rl g.c.pc 1 e a (by decide) (by decide))) ?_
 refine ah (ap Cy (Ev W0 _ z.x.r (g.c.rl.set 1 e) g.c.pc 2 w (by simp [a]) (by decide) (by decide))) ?_
 refine aa (dh rfl rfl (d8 _)) ?_
 refine ah (ap Cx (y9 z.x.r (qR g.c.rl e w) g.c.pc (cP g.c.pc) b)) ?_
 refine aa (bG (by rw [d8, d] : IntKind.wrap .u32 n = ((e : Nat) : Int))) ?_
 refine ah (cN vh (tH W0 _ gb z (yQ g e w) f b 2 (bP g.c.rl 1) e g.c.pc)) ?_
 exact ac ao
theorem Me (a : g.c.rl.length = 16) : sQ W0 20 [pV gb] (pt gb (dA z g) :: pt z.x.r (dF g.c.rl g.c.pc) :: R) (.agg (g.c.rl.map wV).toArray) (pt gb (dA z g) :: pt z.x.r (dF g.c.rl g.c.pc) :: R) := by
 refine am func20 ntmps20 ?_
 refine bu fun b => ?_
 refine ah (ap oG (nJ W0 _ gb z g)) ?_
 refine ah (ap call81 (JK z.x.r g.c.rl g.c.pc a)) ?_
 refine ar (gi rq rfl rfl (by grind) (Eu g.c.rl) rfl) ?_
 exact aV (.cons (b0 Cs rq rfl (by grind)) .nil) ao
theorem a4A (a : g.c.rl.length = 16) i x : sQ W0 57 [pV gb, iQ i, wV x] (pt gb (dA z g) :: pt z.x.r (dF g.c.rl g.c.pc) :: R) (iQ (if gK i then 0 else 1)) (pt gb (dA z g) :: pt z.x.r (dF (if gK i then j8 g.c.rl i.toNat x else g.c.rl) g.c.pc) :: R) := by
 refine am func57 ntmps57 ?_
 refine ah (ap oG (nJ W0 _ gb z g)) ?_
 refine ah (ap Cy (F2 z.x.r g.c.rl g.c.pc x i a)) ?_
 exact ac ao
theorem wF : sQ W0 11 [pV gb] (pt gb (dA z g) :: R) (pV z.pv) (pt gb (dA z g) :: R) := by
 refine am func11 ntmps11 ?_
 refine ah (ap oG (nJ W0 _ gb z g)) ?_
 exact ac ao
theorem a4B : bF Tryz.prog W0 24 [pV gb] (pt gb (dA z g) :: R) (fun v B => v = pV z.x.v ∧ B = pt gb (dA z g) :: R) := by
 refine am func24 ntmps24 ?_
 refine ah (ap oG (nJ W0 _ gb z g)) ?_
 exact ac ao
theorem a4C : sQ W0 26 [pV gb] (pt gb (dA z g) :: R) (lw z.x.t) (pt gb (dA z g) :: R) := by
 refine am func26 ntmps26 ?_
 refine ah (ap oG (nJ W0 _ gb z g)) ?_
 exact ac ao
theorem a4D : sQ W0 16 [pV gb] (pt gb (dA z g) :: R) (iQ g.clock) (pt gb (dA z g) :: R) := by
 refine am func16 ntmps16 ?_
 refine ah (ap oG (nJ W0 _ gb z g)) ?_
 exact ac ao
theorem a4E (a : g.c.rl.length = 16) : sQ W0 21 [pV gb] (pt gb (dA z g) :: pt z.x.r (dF g.c.rl g.c.pc) :: R) (wV g.c.pc) (pt gb (dA z g) :: pt z.x.r (dF g.c.rl g.c.pc) :: R) := by
 refine am func21 ntmps21 ?_
 refine ah (ap oG (nJ W0 _ gb z g)) ?_
 refine ah (ap sx (qP z.x.r g.c.rl g.c.pc a)) ?_
 exact ac ao
theorem Mf {W0 R} p : sQ W0 116 [iQ p] R (.bool (decide (0 ≤ p ∧ p < 8))) R := by
 refine am func116 ntmps116 ?_
 refine bN (fun a => ?_) fun a => ?_
 rw [show decide (0 ≤ p ∧ p < 8) = decide (p < 8) by apply QaA.2; omega]
 exact ac ao
 rw [show decide (0 ≤ p ∧ p < 8) = false by apply Qal; omega]
 exact ac ao
end
def s8 (p : Int) : Bool := decide (0 ≤ p ∧ p < 8)
theorem s9 {p} (h : s8 p = true) : ∃ n : Nat, p = n ∧ n < 8 := by
 have := Qar h
 exact ⟨p.toNat, by omega, by omega⟩
def wG (i : Nat) (p : Int) (x : Mm) : Int := if s8 p then (if aN x.pg p then 5 else (if bS x.po i = [] then 2 else 0)) else 1
def lx (i : Nat) (p : Int) (x : Mm) : Mm :=
  if s8 p && !aN x.pg p then (match bS x.po i with | f :: _ => ⟨x.fr, dL x.pg p ((f : Int), 3), x.po.set f ((i : Int), true)⟩ | [] => x) else x
def BF (p : Int) (x : Mm) : Int := if s8 p then (if aN x.pg p then 0 else 3) else 1
def ly (i : Nat) (p : Int) (x : Mm) : Mm := if s8 p && aN x.pg p then mW i p.toNat x else x
theorem GMem.take {i p x} (h : GMem i x) (b : i < 16) : GMem i (lx i p x) := by
 unfold lx
 split
 rename_i q
 simp only [Qan, Bool.not_eq_true'] at q
 obtain ⟨n, rfl, c⟩ := s9 q.1
 cases e : bS x.po i with
 | nil => exact h
 | cons f l =>
  have a := kQ.1 (show f ∈ bS x.po i by rw [e]; simp)
  exact (h.come b c q.2 a.1 a.2 x.fr h.fr rfl (fun _ _ => rfl)).1
 exact h
theorem GMem.gave {i p x} (h : GMem i x) (a : i < 16) : GMem i (ly i p x) := by
 unfold ly
 split
 rename_i q
 simp only [Qan] at q
 obtain ⟨n, rfl, b⟩ := s9 q.1
 rw [Qaf]
 exact h.give b q.2 a
 exact h
section
variable (W0 : World) (R : List HP) (gb : Nat) (z : Gz) (g : Gu) (N : Nat)
theorem a4F (hi : z.i < 4) p x (h : GMem z.i x) (W : 0 < x.po.length) : sQ W0 44 [pV gb, iQ p] (pt gb (dA z g) :: gC z.x.m ⟨z.pv, z.ps, z.pm, g.bud, x.fr, x.pg⟩ :: cR z.pb (z.ps, x.po) :: R) (iQ (wG z.i p x)) (pt gb (dA z g) :: gC z.x.m ⟨z.pv, z.ps, z.pm, g.bud, (lx z.i p x).fr, (lx z.i p x).pg⟩ :: cR z.pb (z.ps, (lx z.i p x).po) :: R) := by
 obtain ⟨Y, s⟩ : ∃ b, aN x.pg p = b := ⟨_, rfl⟩
 obtain ⟨G, w⟩ : ∃ b, s8 p = b := ⟨_, rfl⟩
 have y : decide (0 ≤ p ∧ p < 8) = G := w
 rw [wG, lx, w, s]
 refine nj (List.Perm.swap _ _ _) (pS fun o r c T L j d N O P Q => ?_)
 have a : ∀ X : List HP, Ent (pt gb (dA z g) :: pt z.x.m (cB z.pv o r) :: aU o (c, cT 4 j) :: bJ r L :: pt z.pv (cg z.ps z.pm d) :: pt z.pm (bI x.pg) :: X) (pt gb (dA z g) :: gC z.x.m ⟨z.pv, z.ps, z.pm, g.bud, x.fr, x.pg⟩ :: X) := fun X => Ent.cons (nH N O P Q)
 refine am func44 ntmps44 ?_
 refine ah (ap oG (nJ W0 _ gb z g)) ?_
 refine ah (aB call116 (Mf p)) ?_
 rw [y]
 refine ai (fun S => ?_) fun S => ?_
 refine ac ?_
 rw [show G = false by simpa using S]
 exact ⟨_, ⟨rfl, rfl⟩, Ent.trans (B := pt gb (dA z g) :: pt z.x.m (cB z.pv o r) :: aU o (c, cT 4 j) :: bJ r L :: pt z.pv (cg z.ps z.pm d) :: pt z.pm (bI x.pg) :: cR z.pb (z.ps, x.po) :: R) inferInstance (a _)⟩
 have U : G = true := by grind
 rw [U]
 obtain ⟨n, rfl, Z⟩ := s9 (w.trans U)
 refine ah (ap nT (rL z.pv z.ps z.pm d)) ?_
 refine ah (ap nS (sZ z.pm x.pg h.pg n)) ?_
 rw [s]
 refine bu fun b5 => ?_
 refine ar aA ?_
 refine ai (fun V => ?_) fun V => ?_
 refine ac ?_
 rw [V]
 exact ⟨_, ⟨rfl, rfl⟩, Ent.trans (B := pt gb (dA z g) :: pt z.x.m (cB z.pv o r) :: aU o (c, cT 4 j) :: bJ r L :: pt z.pv (cg z.ps z.pm d) :: pt z.pm (bI x.pg) :: cR z.pb (z.ps, x.po) :: R) inferInstance (a _)⟩
 have A : Y = false := by grind
 rw [A]
 rw [A] at s
 obtain ⟨F, u⟩ : ∃ l, bS x.po z.i = l := ⟨_, rfl⟩
 rw [u]
 obtain ⟨e, f, H⟩ : ∃ e f, (∀ R, bF Tryz.prog W0 117 [pV z.pb, iQ z.i] (cR z.pb (z.ps, x.po) :: R) (fun v B => v = .tuple #[iQ ((f : Nat) : Int), iQ e] ∧ B = cR z.pb (z.ps, if e = 0 then x.po.set f ((z.i : Int), true) else x.po) :: R)) ∧ (e = 0 ∧ (∃ l, F = f :: l) ∨ e = 2 ∧ F = []) := by
  cases F with
  | nil => exact ⟨2, 0, fun R => by rw [Qaa (by decide)]; exact a4u z.pb z.ps x.po z.i W (by omega) h.po u, .inr ⟨rfl, rfl⟩⟩
  | cons f l => exact ⟨0, f, fun R => by rw [Qad rfl]; exact IZ z.pb z.ps x.po z.i f l (by omega) h.po u, .inl ⟨rfl, l, rfl⟩⟩
 obtain ⟨I, J⟩ := H
 refine bz [gb] 14 fun K => ?_
 refine aj 0 8 K ?_
 refine bY 8 (ap call117 (I _)) fun K => ?_
 refine aj 9 5 K ?_
 refine aJ ?_
 refine aC rfl (fun c9 => ?_) fun c9 => ?_
 refine au 8 ?_
 refine ac ?_
 rcases J with ⟨q, _⟩ | ⟨rfl, rfl⟩
 omega
 rw [Qaa (show ¬((2 : Int) = 0) by decide)]
 exact ⟨_, ⟨rfl, rfl⟩, Ent.trans (B := pt gb (dA z g) :: pt z.x.m (cB z.pv o r) :: aU o (c, cT 4 j) :: bJ r L :: pt z.pv (cg z.ps z.pm d) :: pt z.pm (bI x.pg) :: cR z.pb (z.ps, x.po) :: R) inferInstance (a _)⟩
 refine au 3 ?_
 obtain ⟨rfl, l, rfl⟩ : e = 0 ∧ ∃ l, F = f :: l := by
  grind
 rw [Qad (show (0 : Int) = 0 from rfl)]
 have C := kQ.1 (show f ∈ bS x.po z.i by rw [u]; simp)
 obtain ⟨hG, hE⟩ := h.come (by omega) Z s C.1 C.2 x.fr h.fr rfl (fun _ _ => rfl)
 have D := Q.come (n := n) (p := ((f : Int), 3)) (by have := C.1; have := h.len; show (f : Int) < _; omega) fun t q e => by
  have E := q
  simp only [aN, Qan] at E
  obtain ⟨k, rfl, hk⟩ := kz E.1
  rcases QaC k 8 with M | M
  have := h.own k M q
  rw [e, Qaf, C.2] at this
  have := (QcY this).2; cases this
  have := h.far k M q
  rw [e, Qaf, C.2] at this
  exact this rfl
 refine aw ?_
 refine ah (ap nT (rL z.pv z.ps z.pm d)) ?_
 refine ah (ap NS (Do z.pm x.pg h.pg n ((f : Int), 3))) ?_
 rw [hE]
 refine ac ?_
 refine ⟨_, ⟨rfl, rfl⟩, ?_⟩
 exact Ent.trans (B := pt gb (dA z g) :: pt z.x.m (cB z.pv o r) :: aU o (c, cT 4 j) :: bJ r L :: pt z.pv (cg z.ps z.pm d) :: pt z.pm (bI (dL x.pg n ((f : Int), 3))) :: cR z.pb (z.ps, x.po.set f ((z.i : Int), true)) :: R) inferInstance (Ent.cons (nH N O P D))
theorem a4G (hi : z.i < 4) p x (h : GMem z.i x) : sQ W0 46 [pV gb, .int .i64 p] (pt gb (dA z g) :: gC z.x.m ⟨z.pv, z.ps, z.pm, g.bud, x.fr, x.pg⟩ :: cR z.pb (z.ps, x.po) :: bD z.ps x.fr :: R) (.int .i64 (BF p x)) (pt gb (dA z g) :: gC z.x.m ⟨z.pv, z.ps, z.pm, g.bud, (ly z.i p x).fr, (ly z.i p x).pg⟩ :: cR z.pb (z.ps, (ly z.i p x).po) :: bD z.ps (ly z.i p x).fr :: R) := by
 obtain ⟨th, hth⟩ : ∃ b, aN x.pg p = b := ⟨_, rfl⟩
 obtain ⟨ow, how⟩ : ∃ b, s8 p = b := ⟨_, rfl⟩
 have how2 : decide (0 ≤ p ∧ p < 8) = ow := how
 rw [BF, ly, how, hth]
 refine nj (List.Perm.swap _ _ _) (pS fun bt bs its T L now d h1 h2 h3 h4 => ?_)
 have hclose : ∀ X : List HP, Ent (pt gb (dA z g) :: pt z.x.m (cB z.pv bt bs) :: aU bt (its, cT 4 now) :: bJ bs L :: pt z.pv (cg z.ps z.pm d) :: pt z.pm (bI x.pg) :: X) (pt gb (dA z g) :: gC z.x.m ⟨z.pv, z.ps, z.pm, g.bud, x.fr, x.pg⟩ :: X) := fun X => Ent.cons (nH h1 h2 h3 h4)
 refine jz 10 func46 ntmps46 ?_
 refine eh 3 (ir oG rfl (nJ W0 _ gb z g)) ?_
 refine aC rfl (fun c1 => ?_) fun c1 => ?_
 exact absurd c1 (by decide)
 refine au 3 ?_
 refine kv (iz call116 rfl (Mf p)) ?_
 rw [how2]
 refine au 4 ?_
 refine aC rfl (fun c3 => ?_) fun c3 => ?_
 refine au 8 ?_
 refine ac ?_
 rw [show ow = false by simpa using c3]
 exact ⟨_, ⟨rfl, rfl⟩, Ent.trans (B := pt gb (dA z g) :: pt z.x.m (cB z.pv bt bs) :: aU bt (its, cT 4 now) :: bJ bs L :: pt z.pv (cg z.ps z.pm d) :: pt z.pm (bI x.pg) :: cR z.pb (z.ps, x.po) :: bD z.ps x.fr :: R) inferInstance (hclose _)⟩
 refine au 4 ?_
 have ho : ow = true := by grind
 rw [ho]
 obtain ⟨n, rfl, hn⟩ := s9 (how.trans ho)
 refine au 5 ?_
 refine kv (ir nT rfl (rL z.pv z.ps z.pm d)) ?_
 refine ae rfl (aM rfl) (kv (ir nS rfl (sZ z.pm x.pg h.pg n)) ?_)
 rw [hth]
 refine au 3 ?_
 refine eH (di pB) fun b5 => ?_
 refine iB 10 (gi qd rfl rfl rfl rfl rfl) ?_
 refine aC rfl (fun c6 => ?_) fun c6 => ?_
 refine au 7 ?_
 refine ac ?_
 rw [show th = false by simpa using c6]
 exact ⟨_, ⟨rfl, rfl⟩, Ent.trans (B := pt gb (dA z g) :: pt z.x.m (cB z.pv bt bs) :: aU bt (its, cT 4 now) :: bJ bs L :: pt z.pv (cg z.ps z.pm d) :: pt z.pm (bI x.pg) :: cR z.pb (z.ps, x.po) :: bD z.ps x.fr :: R) inferInstance (hclose _)⟩
 refine au 3 ?_
 have ht1 : th = true := by grind
 rw [ht1]
 rw [ht1] at hth
 obtain ⟨f, hf, hff, hfp⟩ := h.at_ hth
 have hown := h.own n hn hth
 rw [hf, Qaf] at hown
 have hgv : mW z.i n x = ⟨x.fr.set f cC, fe x.pg n, x.po.set f ((z.i : Int), false)⟩ := by grind [mW]
 have hne : ∀ t : Nat, t < 8 → aN (fe x.pg n) t = true → (x.fr.set f cC).getD (bH (fe x.pg n) t).1.toNat [] = x.fr.getD (bH (fe x.pg n) t).1.toNat [] := fun t h8 q => by
  rw [yP h.pg.len, Qan, Qaj] at q
  have h5 := yO h.pg q.1
  rw [BC q.2]
  exact Fu fun e2 => q.2 (h.pl.inj _ _ q.1 hth (by omega))
 refine au 5 ?_
 refine kv (ir nT rfl (rL z.pv z.ps z.pm d)) ?_
 refine ae rfl (aM rfl) (eh 10 (ir Gl rfl (KQ z.pm x.pg h.pg n)) ?_)
 refine aF rfl (lW call123 rfl (a3h z.x.m z.pv bt bs z.ps z.pm d its 4 now T L x.fr x.pg h1 h2 (by decide) n h4)) ?_
 rintro _ B_ ⟨rfl, its2, T2, L2, hB_, k1, k2, k3⟩
 obtain rfl := hB_.symm
 have k4 := k3.frame (fr' := x.fr.set f cC) (by simp) (Mc h.fr f) hne
 refine au 3 ?_
 refine fj [(gb, 0, _), (b5, 0, _)] 8 mixed rfl (bL (bL aW)) (fun hS => ?_)
 refine aj 0 5 hS ?_
 refine dr 5 rfl rfl rfl hS (co db rfl (dq (j := 0) (k := 1) (v := .int .i64 f) rfl (by grind))) ?_
 refine fD 6 rfl rfl (zQ call124 rfl (Mb z.pb z.ps x.po x.fr f z.i hfp hff (by omega) h.po hown)) (bL (bL aW)) fun hS => ?_
 refine aj 7 1 hS ?_
 refine hQ ?_
 refine au 2 ?_
 refine ac ?_
 rw [Qad rfl, Qad (by rfl), Qaf, hgv]
 refine ⟨_, ⟨rfl, rfl⟩, ?_⟩
 exact Ent.trans (B := pt gb (dA z g) :: pt z.x.m (cB z.pv bt bs) :: aU bt (its2, cT 4 now) :: bJ bs L2 :: pt z.pv (cg z.ps z.pm 0) :: pt z.pm (bI (fe x.pg n)) :: cR z.pb (z.ps, x.po.set f ((z.i : Int), false)) :: bD z.ps (x.fr.set f cC) :: R) inferInstance (Ent.cons (nH k1 k2 h3 k4))
end
abbrev BG : Tm := ⟨[false, false, false, false], 0, []⟩
abbrev nK : List Nat := [0, 0, 0, 0, 0, 4, 0]
abbrev yR : List Li := List.replicate 8 default
theorem a4H {b R} : Ent (pt b (ag [ej, .bool true] 276) :: R) (bJ b [] :: R) :=
  (Ent.cons (fm (E := 278) (sz := 7) (A := R) (B := R))).trans (fK (R := R) (C := [_, _]) ⟨none, 0, rfl⟩)
theorem Mg {fr pg} (a : cz fr) (b : Pgs pg) (c : PlOk fr.length pg) : MOk fr pg 0 [] [] := ⟨a, by decide, b, c, TI.nil, fun x d => by simp at d⟩
abbrev Fv (x : Bd) (q0 q1 q2 i pv ps pm : Nat) (fr : List aD) (pg : List Pl) (R : List HP) : List HP := pt x.r (dF (List.replicate 16 0) 0) :: pt x.c (eg nK i) :: gC x.m ⟨pv, ps, pm, 0, fr, pg⟩ :: mQ x.v (yR, 0) :: mR x.t BG :: pt q0 (qO true du) :: pt q1 (qO true du) :: pt q2 (qO true du) :: R
abbrev Mh (x : Bd) (bt bs q0 q1 q2 i pv ps pm : Nat) (pg : List Pl) (R : List HP) : List HP := pt x.r (dF (List.replicate 16 0) 0) :: pt x.c (eg nK i) :: pt x.m (cB pv bt bs) :: aU bt ([], cT 4 0) :: bJ bs [] :: pt pv (cg ps pm 0) :: pt pm (bI pg) :: mQ x.v (yR, 0) :: mR x.t BG :: pt q0 (qO true du) :: pt q1 (qO true du) :: pt q2 (qO true du) :: R
theorem Fw {x bt bs q0 q1 q2 i pv ps pm pg R} : Ent (rZ x i bt bs pv (kH 6 (cq [pt q0 (qO true du), pt q1 (qO true du), pt q2 (qO true du)]) :: pt pv (cg ps pm 0) :: pt pm (bI pg) :: R)) (Mh x bt bs q0 q1 q2 i pv ps pm pg R) := by
 refine Ent.cons (Ent.cons ?_)
 show Ent (pt x.m (wo pv bt bs) :: aU bt ([], cT 4 0) :: pt bs (ag [ej, .bool true] 276) :: pt x.v uE :: pt x.t uF :: kH 6 (cq [pt q0 (qO true du), pt q1 (qO true du), pt q2 (qO true du)]) :: pt pv (cg ps pm 0) :: pt pm (bI pg) :: R) _
 have a : Ent (pt x.m (wo pv bt bs) :: aU bt ([], cT 4 0) :: pt bs (ag [ej, .bool true] 276) :: pt x.v uE :: pt x.t uF :: kH 6 (cq [pt q0 (qO true du), pt q1 (qO true du), pt q2 (qO true du)]) :: pt pv (cg ps pm 0) :: pt pm (bI pg) :: R)
     (kH 6 (cq [pt q0 (qO true du), pt q1 (qO true du), pt q2 (qO true du)]) :: pt bs (ag [ej, .bool true] 276) :: pt x.m (wo pv bt bs) :: aU bt ([], cT 4 0) :: pt pv (cg ps pm 0) :: pt pm (bI pg) :: pt x.v uE :: pt x.t uF :: R) := inferInstance
 refine a.trans ((sD (A := [pt q0 (qO true du), pt q1 (qO true du), pt q2 (qO true du)])).trans ?_)
 refine Ent.trans (B := pt q0 (qO true du) :: pt q1 (qO true du) :: pt q2 (qO true du) :: bJ bs [] :: pt x.m (wo pv bt bs) :: aU bt ([], cT 4 0) :: pt pv (cg ps pm 0) :: pt pm (bI pg) :: pt x.v uE :: pt x.t uF :: R) (Ent.cons (Ent.cons (Ent.cons a4H))) ?_
 refine Ent.trans (B := pt x.m (cB pv bt bs) :: aU bt ([], cT 4 0) :: bJ bs [] :: pt pv (cg ps pm 0) :: pt pm (bI pg) :: pt x.v uE :: pt x.t uF :: pt q0 (qO true du) :: pt q1 (qO true du) :: pt q2 (qO true du) :: R) inferInstance ?_
 refine Ent.cons (Ent.cons (Ent.cons (Ent.cons (Ent.cons ?_))))
 refine Ent.trans (B := pt x.v (ag ((dO yR 0).set 32 ej) 177) :: pt x.t (ag ((fz [false, false, false, false] 0).set 0 ej) 183) :: pt q0 (qO true du) :: pt q1 (qO true du) :: pt q2 (qO true du) :: R) ent_refl ?_
 exact a3N.trans (Ent.cons a4b)
theorem a4I {x bt bs q0 q1 q2 i pv ps pm fr pg R} (h : MOk fr pg 0 [] []) : Ent (rZ x i bt bs pv (kH 6 (cq [pt q0 (qO true du), pt q1 (qO true du), pt q2 (qO true du)]) :: pt pv (cg ps pm 0) :: pt pm (bI pg) :: R)) (Fv x q0 q1 q2 i pv ps pm fr pg R) :=
  Fw.trans (Ent.cons (Ent.cons (nH (bud := 0) Rep.nil (QaG _) (Qam _) h)))
abbrev sd (g : Gu) : Gu := ⟨⟨List.replicate 16 0, 0, nK⟩, du, du, du, yR, 0, BG, false, [0, 0, 0, 0], g.clock, g.es, 0⟩
abbrev pX (g : Gu) : Gu := ov (sd g) 5 0 0 0
def je (i n : Nat) (ws : List Nat) (x : Mm) : Mm := tI (cI i (bA ws n) n ⟨(cr i 8 x).fr, (cr i 8 x).po, (cr i 8 x).pg⟩)
theorem Fx {i x} (h : GMem i x) (a : i < 16) : ∀ n, n ≤ 8 → ∀ t, t < n → aN (cr i n x).pg t = false
 | 0, _, t, b => absurd b (QbE t)
 | n + 1, d, t, b => by
  have c := h.strip a n (by omega)
  rw [cr, ka]
  by_cases q : aN (cr i n x).pg n = true
  rw [Qad q]
  show aN (fe (cr i n x).pg n) (t : Nat) = false
  rw [yP c.pg.len]
  by_cases e : t = n
  subst e; simp
  rw [Fx h a n (by omega) t (by omega)]; rfl
  rw [Qaa q]
  by_cases e : t = n
  grind
  exact Fx h a n (by omega) t (by omega)
theorem BH {i x} (h : GMem i x) (a : i < 16) : qE (cr i 8 x).pg 0 8 := fun t _ b => Fx h a 8 (Qam _) t b
def nL (i : Nat) (po : Po) : Nat := ((List.range po.length).filter fun f => (d6 po f).1 == (i : Int)).length
theorem yS {i x} (h : GMem i x) (c : i < 16) : ∀ n, n ≤ 8 → (cr i n x).po.length = x.po.length ∧ ∀ f, (d6 (cr i n x).po f).1 = (d6 x.po f).1
 | 0, _ => ⟨rfl, fun _ => rfl⟩
 | n + 1, o => by
  obtain ⟨e, g⟩ := yS h c n (by omega)
  have d := h.strip c n (by omega)
  rw [cr, ka]
  split
  rename_i q
  obtain ⟨f, j, l, a⟩ := d.at_ q
  have m := d.own n (by omega) q
  rw [j, Qaf] at m
  have b : (mW i n (cr i n x)).po = (cr i n x).po.set f ((i : Int), false) := by grind [mW]
  rw [b]
  refine ⟨by rw [Qap]; exact e, fun k => ?_⟩
  rw [jY a]
  split
  grind
  exact g k
  grind
attribute [local irreducible] cr
theorem Fy {i x} (h : GMem i x) (a : i < 16) : (bS (cr i 8 x).po i).length = nL i x.po := by
 have c := h.strip a 8 (Qam _)
 obtain ⟨d, g⟩ := yS h a 8 (Qam _)
 have j := BH h a
 unfold nL bS
 rw [d]
 refine Qah List.length (Qcu fun f m => ?_)
 have b : f < (cr i 8 x).po.length := by grind
 rw [← g f, Qag, QaZ, QaZ]
 constructor
 grind
 intro e
 cases k : (d6 (cr i 8 x).po f).2 with
 | false => rw [← e, ← k]
 | true =>
  obtain ⟨t, l, q, _⟩ := c.all f b (by grind)
  rw [j t (QaG _) l] at q
  cases q
theorem GMem.anew {i n ws x} (h : GMem i x) (a : i < 16) (b : n ≤ 8) (d : n ≤ nL i x.po) : GMem i (je i n ws x) := by
 have c := h.strip a 8 (Qam _)
 exact GMem.lay (x := ⟨(cr i 8 x).fr, (cr i 8 x).po, (cr i 8 x).pg⟩) c a (BH h a) n b (by grind [Fy])
section
variable (W0 : World) (R : List HP) (gb : Nat) (z : Gz) (g : Gu) (N : Nat)
theorem a4J (hc : CfK W0 z.c) (hr : rt z.c = true) (hi : z.i < z.c.gl.length) (hk : g.clock < 1000000000) x (h : GMem z.i x) (h0 : 0 < x.po.length) (n : Nat) (hn : (cJ z.c z.i).2.1 = n) (hpar : n ≤ nL z.i x.po) a cap ws (hw : z.wv = .slice a ws.length cap) (hs : ∀ A, Ent A R → cG (aQ W0 A) a 1 iJ ws) (hb : ∀ y ∈ ws, y < 4294967296) (hwl : ws.length ≤ 128) : sP W0 19 [pV gb] (pt gb (dA z g) :: gB z.tr g.es :: gC z.x.m ⟨z.pv, z.ps, z.pm, g.bud, x.fr, x.pg⟩ :: cR z.pb (z.ps, x.po) :: bD z.ps x.fr :: R) (fun v B => ∃ y bt2 bs2 q0 q1 q2, v = iQ 0 ∧ B = pt gb (dA { z with x := y, q0 := q0, q1 := q1, q2 := q2 } (pX g)) :: gB z.tr (pX g).es :: cR z.pb (z.ps, (je z.i n ws x).po) :: bD z.ps (je z.i n ws x).fr :: Mh y bt2 bs2 q0 q1 q2 z.i z.pv z.ps z.pm (je z.i n ws x).pg R) := by
 have I := jt hr
 have O := I.g4
 have D := I.gs z.i hi
 rw [hn] at D
 obtain ⟨J, o, E, f⟩ := (hc.ok.g []).at_ hi
 obtain ⟨u, P⟩ : ∃ u, z.c.gl[z.i] = u := ⟨_, rfl⟩
 have K : cJ z.c z.i = u := by grind [cJ]
 rw [P] at f
 have F : u.2.1 = (n : Int) := by grind
 have l := h.strip (show z.i < 16 by omega) 8 (Qam _)
 have p := BH h (show z.i < 16 by omega)
 have M := Fy h (show z.i < 16 by omega)
 have s := h.anew (n := n) (ws := ws) (show z.i < 16 by omega) (by omega) hpar
 have G : ImOk ⟨(cr z.i 8 x).fr, (cr z.i 8 x).po, (cr z.i 8 x).pg⟩ := ⟨l.fr, l.po, l.pg, l.len⟩
 have Q := (yS h (show z.i < 16 by omega) 8 (Qam _)).1
 obtain ⟨r, t⟩ : ∃ y, cI z.i (bA ws n) n ⟨(cr z.i 8 x).fr, (cr z.i 8 x).po, (cr z.i 8 x).pg⟩ = y := ⟨_, rfl⟩
 have H : je z.i n ws x = tI r := by rw [je, t]
 rw [H] at s ⊢
 refine nj (B := gC z.x.m ⟨z.pv, z.ps, z.pm, g.bud, x.fr, x.pg⟩ :: pt gb (dA z g) :: gB z.tr g.es :: cR z.pb (z.ps, x.po) :: bD z.ps x.fr :: R) ud (pS fun X Y S T L U d Z h2 h3 V => ?_)
 have hx : bE (aQ W0 (pt gb (dA z g) :: R)) J (o + z.i * 3) (i9 u) := f.weak
 refine am func19 ntmps19 ?_
 refine ah (ap oG (nJ W0 _ gb z g)) ?_
 refine bz [gb] 10 fun b => ?_
 refine aj 0 8 b ?_
 refine bY 8 (ap nT (rL z.pv z.ps z.pm d)) fun b => ?_
 refine bQ 9 (cN call75 (a4w z.pb z.ps z.pm z.i x h (by omega))) ?_; clear b
 rintro _ C ⟨q, rfl, e⟩
 obtain rfl := e.symm
 refine ⟨aT, fun b => ?_⟩
 refine aJ ?_
 refine fj [(gb, 0, mg z g), (J, o + z.i * 3, i9 u)] 36 mixed rfl (bL (bj f.weak aW)) (fun b => ?_)
 refine aj 0 8 b ?_
 refine aj 9 4 b ?_
 refine aj 14 13 b ?_
 refine az 27 b (ek mZ l6 rfl E rfl rfl hi (by first | exact Qac _ | rfl)) ?_
 refine aj 28 1 b ?_
 refine az 29 b (aE (km (j := 1) (k := 1) (v := iQ n) rfl (by rw [← F]; rfl))) ?_
 refine aj 30 3 b ?_
 refine az 33 b (aE (dq (k := 0) (v := .slice a ws.length cap) rfl (by rw [← hw]; rfl))) ?_
 refine fD 8 rfl rfl (ap Ob (Dq z.pv z.ps z.pm d)) (bL (bj f.weak aW)) fun b => ?_
 refine fD 13 rfl rfl (ap nT (rL z.pv z.ps z.pm d)) (bL (bj f.weak aW)) fun b => ?_
 refine bQ 34 (cN call76 (Ju z.pb z.ps z.pm z.i n ⟨(cr z.i 8 x).fr, (cr z.i 8 x).po, (cr z.i 8 x).pg⟩ G (by have := l.len; show 0 < (cr z.i 8 x).fr.length; omega) a cap ws (by omega) (by omega) (by omega) p (by grind) (by intro A K; exact hs A (K.trans inferInstance)) hb (by omega))) ?_; clear b
 rintro _ C ⟨rfl, e⟩
 obtain rfl := e.symm
 rw [t]
 refine ⟨(bL (bj f.weak aW)), fun b => ?_⟩
 refine aj 35 1 b ?_
 refine aJ ?_
 refine ai (fun N => ?_) fun N => ?_
 exact absurd rfl N
 refine aF rfl (ap call78 (Iq z.pv z.ps z.pm d V.dl)) ?_
 rintro _ C ⟨da, dc, rfl, e⟩
 obtain rfl := e.symm
 refine aw ?_
 refine bz [gb] 15 fun b => ?_
 refine aj 0 8 b ?_
 refine eD (is := [8, 12]) (by kernel_rfl) rfl ⟨?_, ?_, trivial⟩
 refine cX (ap NX (EB z.i z.pv z.ps z.pm 0 (by omega))) ?_; clear b
 rintro _ C ⟨y, bt2, bs2, q0, q1, q2, rfl, e⟩
 obtain rfl := e.symm
 refine ⟨aT, fun b => ?_⟩
 refine aj 9 3 b ?_
 refine bQ 12 (di NA) ?_; clear b
 rintro _ _ ⟨W, rfl, rfl⟩
 refine ⟨aT, fun b => ?_⟩
 refine cm 13 aA fun b => ?_
 refine aj 14 1 b ?_
 refine aJ ?_
 refine ai (fun w => ?_) fun w => ?_
 exact absurd rfl w
 refine ar (iD (Qab rfl) (by exact rfl : d7 (mg z g) 0 (B4 y q0 q1 q2) = mg { z with x := y, q0 := q0, q1 := q1, q2 := q2 } (sd g))) ?_
 refine ah (cN vh (tH W0 _ gb { z with x := y, q0 := q0, q1 := q1, q2 := q2 } (sd g) hk rfl 5 0 0 0)) ?_
 refine ac ?_
 refine ⟨_, ⟨y, bt2, bs2, q0, q1, q2, rfl, rfl⟩, ?_⟩
 refine Ent.trans (B := pt gb (dA { z with x := y, q0 := q0, q1 := q1, q2 := q2 } (pX g)) :: gB z.tr (pX g).es :: cR z.pb (z.ps, r.po) :: bD z.ps r.fr :: rZ y z.i bt2 bs2 z.pv (kH 6 (cq [pt q0 (qO true du), pt q1 (qO true du), pt q2 (qO true du)]) :: pt z.pv (cg z.ps z.pm 0) :: pt z.pm (bI r.pg) :: R)) inferInstance ?_
 exact Ent.cons (Ent.cons (Ent.cons (Ent.cons Fw)))
 skip
 refine cX (di NA) ?_; clear b
 rintro _ _ ⟨W, rfl, rfl⟩
 refine ⟨aT, fun b => ?_⟩
 refine bQ 8 (ap NX (EB z.i z.pv z.ps z.pm 0 (by omega))) ?_; clear b
 rintro _ C ⟨y, bt2, bs2, q0, q1, q2, rfl, e⟩
 obtain rfl := e.symm
 refine ⟨aT, fun b => ?_⟩
 refine aj 9 3 b ?_
 refine cm 13 aA fun b => ?_
 refine aj 14 1 b ?_
 refine aJ ?_
 refine ai (fun w => ?_) fun w => ?_
 exact absurd rfl w
 refine ar (iD (Qab rfl) (by exact rfl : d7 (mg z g) 0 (B4 y q0 q1 q2) = mg { z with x := y, q0 := q0, q1 := q1, q2 := q2 } (sd g))) ?_
 refine ah (cN vh (tH W0 _ gb { z with x := y, q0 := q0, q1 := q1, q2 := q2 } (sd g) hk rfl 5 0 0 0)) ?_
 refine ac ?_
 refine ⟨_, ⟨y, bt2, bs2, q0, q1, q2, rfl, rfl⟩, ?_⟩
 refine Ent.trans (B := pt gb (dA { z with x := y, q0 := q0, q1 := q1, q2 := q2 } (pX g)) :: gB z.tr (pX g).es :: cR z.pb (z.ps, r.po) :: bD z.ps r.fr :: rZ y z.i bt2 bs2 z.pv (kH 6 (cq [pt q0 (qO true du), pt q1 (qO true du), pt q2 (qO true du)]) :: pt z.pv (cg z.ps z.pm 0) :: pt z.pm (bI r.pg) :: R)) inferInstance ?_
 exact Ent.cons (Ent.cons (Ent.cons (Ent.cons Fw)))
theorem a4K (hc : CfK W0 z.c) (hr : rt z.c = true) (hi : z.i < z.c.gl.length) (hk : g.clock < 1000000000) x (h : GMem z.i x) (h0 : 0 < x.po.length) (n : Nat) (hn : (cJ z.c z.i).2.1 = n) (hpar : n ≤ nL z.i x.po) a cap ws (hw : z.wv = .slice a ws.length cap) (hs : ∀ A, Ent A R → cG (aQ W0 A) a 1 iJ ws) (hb : ∀ y ∈ ws, y < 4294967296) (hwl : ws.length ≤ 128) : sP W0 19 [pV gb] (pt gb (dA z g) :: gB z.tr g.es :: gC z.x.m ⟨z.pv, z.ps, z.pm, g.bud, x.fr, x.pg⟩ :: cR z.pb (z.ps, x.po) :: bD z.ps x.fr :: R) (fun v B => ∃ y q0 q1 q2, v = iQ 0 ∧ B = pt gb (dA { z with x := y, q0 := q0, q1 := q1, q2 := q2 } (pX g)) :: gB z.tr (pX g).es :: cR z.pb (z.ps, (je z.i n ws x).po) :: bD z.ps (je z.i n ws x).fr :: Fv y q0 q1 q2 z.i z.pv z.ps z.pm (je z.i n ws x).fr (je z.i n ws x).pg R) := by
 have e := jt hr
 have f := e.g4
 have d := e.gs z.i hi
 rw [hn] at d
 have b := h.anew (n := n) (ws := ws) (show z.i < 16 by omega) (by omega) hpar
 refine gQ (a4J W0 R gb z g hc hr hi hk x h h0 n hn hpar a cap ws hw hs hb hwl) fun v B j => ?_
 obtain ⟨y, k, l, q0, q1, q2, rfl, rfl⟩ := j
 exact ⟨_, ⟨y, q0, q1, q2, rfl, rfl⟩, Ent.cons (Ent.cons (Ent.cons (Ent.cons (Ent.cons (Ent.cons (nH (bud := 0) Rep.nil (QaG _) (Qam _) (Mg b.fr b.pg b.pl)))))))⟩
end
theorem wH t : aN iK t = false := by
 cases q : aN iK t with
 | false => rfl
 | true =>
  have h := q
  simp only [aN, Qan] at h
  obtain ⟨k, rfl, a⟩ := kz h.1
  have : k = 0 ∨ k = 1 ∨ k = 2 ∨ k = 3 ∨ k = 4 ∨ k = 5 ∨ k = 6 ∨ k = 7 ∨ k = 8 ∨ k = 9 ∨ k = 10 ∨ k = 11 := by omega
  rcases this with rfl | rfl | rfl | rfl | rfl | rfl | rfl | rfl | rfl | rfl | rfl | rfl <;> exact absurd q (by decide)
theorem GMem.none {i : Nat} {fr po} (b : cz fr) (c : PoOk po) (d : po.length = fr.length) (g : ∀ f, f < po.length → d6 po f ≠ ((i : Int), true)) (h : ∀ f, f < po.length → d6 po f = ((i : Int), false) → fr.getD f [] = cC) : GMem i ⟨fr, iK, po⟩ :=
  ⟨b, c, yk, d, ⟨fun t a => absurd a (by rw [wH]; decide), fun s t j => absurd j (by rw [wH]; decide)⟩, fun t _ a => absurd a (by rw [wH]; decide), fun f k e => absurd e (g f k), fun t _ a => absurd a (by rw [wH]; decide), h⟩
theorem a4L {who i words x} : (jD who words x i).po.length = x.po.length ∧ (∀ f, (d6 (jD who words x i).po f).1 = (d6 x.po f).1) := by
 unfold jD
 cases e : bS x.po who with
 | nil => exact ⟨rfl, fun _ => rfl⟩
 | cons f l =>
  have a := kQ.1 (show f ∈ bS x.po who by rw [e]; simp)
  refine ⟨Qap .., fun k => ?_⟩
  dsimp only
  rw [jY a.1]
  split
  grind
  rfl
theorem yT {who words x} : ∀ n, (cI who words n x).po.length = x.po.length ∧ (∀ f, (d6 (cI who words n x).po f).1 = (d6 x.po f).1)
 | 0 => ⟨rfl, fun _ => rfl⟩
 | n + 1 => by
  obtain ⟨a, b⟩ := yT (who := who) (words := words) (x := x) n
  obtain ⟨c, d⟩ := a4L (who := who) (i := n) (words := words) (x := cI who words n x)
  exact ⟨c.trans a, fun f => (d f).trans (b f)⟩
theorem yU {who words x} : ∀ n, n ≤ 8 → ∀ t : Nat, 8 ≤ t → aN (cI who words n x).pg t = aN x.pg t
 | 0, _, _, _ => rfl
 | n + 1, b, t, a => by
  rw [cI, jD]
  cases e : bS (cI who words n x).po who with
  | nil => exact yU n (by omega) t a
  | cons f l =>
   dsimp only
   unfold dL
   split
   rw [Qaf, (gr (by omega)).1]
   exact yU n (by omega) t a
   exact yU n (by omega) t a
theorem GMem.ring {i k fr pg po f r} (h : GMem i ⟨fr, pg, po⟩) (w : k < 4) (d : aN pg (8 + k : Nat) = false) (x : f < fr.length) (y : 1 ≤ r ∧ r ≤ 3) (z : (d6 po f).1 ≠ i) (s : ∀ t, aN pg t = true → (bH pg t).1 ≠ f) :
    GMem i ⟨fr, dL pg (8 + k : Nat) (f, r), po⟩ ∧ (∀ t, aN (dL pg (8 + k : Nat) (f, r)) t = (aN pg t || decide (t = (8 + k : Nat)))) ∧ (∀ t, t ≠ ((8 + k : Nat) : Int) → bH (dL pg (8 + k : Nat) (f, r)) t = bH pg t) ∧ bH (dL pg (8 + k : Nat) (f, r)) (8 + k : Nat) = ((f : Int), r) := by
 have l : f < 32 := by have := h.po.len; have := h.len; dsimp only at *; omega
 have A : fW pg ((8 + k : Nat) : Int) ((f : Int), r) = 0 := by
  rw [fW, Qad ⟨Qai (by omega), Qai (by omega)⟩, d]; rfl
 have m : dL pg ((8 + k : Nat) : Int) ((f : Int), r) = pg.set (8 + k) ((f : Int), r) := by grind [dL]
 have b : (((f : Int), r) : Pl) ≠ (0, 0) := fun e => by have := (QcY e).2; omega
 have u := yE (p := ((f : Int), r)) h.pg.len (show 8 + k < 12 by omega) b
 have a : ∀ t, aN (pg.set (8 + k) ((f : Int), r)) t = (aN pg t || decide (t = ((8 + k : Nat) : Int))) := fun t => by
  by_cases e : t = ((8 + k : Nat) : Int)
  grind
  grind [gr]
 rw [m]
 refine ⟨⟨h.fr, h.po, ?_, h.len, h.pl.set h.pg.len (by omega) b (by grind) s, fun t c q => ?_, fun g j q => ?_, fun t c q => ?_, h.nul⟩, a, fun t e => (gr e).2, u.2⟩
 have := vP (n := ((8 + k : Nat) : Int)) (p := ((f : Int), r)) h.pg
 rwa [m] at this
 have e : (t : Int) ≠ ((8 + k : Nat) : Int) := by omega
 dsimp only at q ⊢
 rw [a, Qal e, QcK] at q
 rw [(gr e).2]
 exact h.own t c q
 obtain ⟨t, c, o, v⟩ := h.all g j q
 have e : (t : Int) ≠ ((8 + k : Nat) : Int) := by omega
 exact ⟨t, c, by dsimp only; rw [a]; dsimp only at o; rw [o]; rfl, by dsimp only; rw [(gr e).2]; exact v⟩
 dsimp only at q ⊢
 by_cases e : (t : Int) = ((8 + k : Nat) : Int)
 grind
 rw [a, Qal e, QcK] at q
 rw [(gr e).2]
 exact h.far t c q
theorem GMem.rings {c i fr pg po} (n : rt c = true) (h : GMem i ⟨fr, pg, po⟩) (a : ∀ t : Nat, 8 ≤ t → aN pg t = false) (b : Nat) (u : dM c c.gl.length = b) (g : ∀ k, k < c.nl.length → (d6 po (b + k)).1 ≠ i) (v : b + c.nl.length ≤ fr.length) :
    ∀ k, k ≤ c.nl.length → GMem i ⟨fr, eZ c i k pg, po⟩ ∧ (∀ t : Nat, 8 ≤ t → aN (eZ c i k pg) t = true → t < 8 + k ∧ (bH (eZ c i k pg) t).1 = (b + (t - 8) : Nat)) ∧ (∀ t : Nat, t < 8 → aN (eZ c i k pg) t = aN pg t ∧ bH (eZ c i k pg) t = bH pg t)
 | 0, _ => ⟨h, fun t d q => absurd (show aN pg t = true from q) (by grind), fun t _ => ⟨rfl, rfl⟩⟩
 | k + 1, A => by
  obtain ⟨o, w, B⟩ := h.rings n a b u g v k (by omega)
  have x := (jt n).nn
  rw [eZ]
  split
  grind
  rename_i C
  have j : iY c (k : Int) = ((b + k : Nat) : Int) := by grind [iY]
  have l : 1 ≤ ic (ie c k) i ∧ ic (ie c k) i ≤ 3 := by
   grind [ic]
  have m : aN (eZ c i k pg) ((8 + k : Nat) : Int) = false := by
   cases q : aN (eZ c i k pg) ((8 + k : Nat) : Int) with
   | false => rfl
   | true => have := (w (8 + k) (by omega) q).1; omega
  rw [j]
  obtain ⟨y, z, D, E⟩ := o.ring (k := k) (f := b + k) (r := ic (ie c k) i) (by omega) m (by omega) l (g k (by omega)) fun t q e => by
   have p := q
   simp only [aN, Qan] at p
   obtain ⟨s, rfl, F⟩ := kz p.1
   rcases QaC s 8 with d | d
   have := o.own s d q
   dsimp only at this
   rw [e, Qaf] at this
   exact g k (by omega) (by rw [this])
   grind
  refine ⟨y, fun t d q => ?_, fun t d => ?_⟩
  rw [z] at q
  by_cases e : (t : Int) = ((8 + k : Nat) : Int)
  grind
  grind
  grind
def jf (c : Cfg) (i : Nat) (ws : List Nat) (fr : List aD) (po : Po) : Mm := ⟨(laid c i ws fr po).fr, eZ c i c.nl.length (laid c i ws fr po).pg, (laid c i ws fr po).po⟩
theorem a4M {c i ws fr po} (a : cz fr) (b : PoOk po) (d : po.length = fr.length) (e : i < 16) : (laid c i ws fr po).fr.length = fr.length := by
 have g := (ux (who := i) (words := bA ws (cJ c i).2.1.toNat) (x := ⟨fr, po, iK⟩) e (n := (cJ c i).2.1.toNat) ⟨a, b, yk, d⟩).len
 have f := (yT (who := i) (words := bA ws (cJ c i).2.1.toNat) (x := ⟨fr, po, iK⟩) (cJ c i).2.1.toNat).1
 have h : (cI i (bA ws (cJ c i).2.1.toNat) (cJ c i).2.1.toNat ⟨fr, po, iK⟩).po.length = po.length := f
 unfold laid
 omega
theorem GMem.made {c i ws fr po} (g : rt c = true) (o : i < c.gl.length) (h : cz fr) (j : PoOk po) (l : po.length = fr.length) (m : (cJ c i).2.1 ≤ ((bS po i).length)) (p : ∀ f, f < po.length → d6 po f ≠ ((i : Int), true)) (q : ∀ f, f < po.length → d6 po f = ((i : Int), false) → fr.getD f [] = cC)
    (r : ∀ b k : Nat, dM c c.gl.length = b → k < c.nl.length → (d6 po (b + k)).1 ≠ i) (C : fr.length = cp c) : GMem i (jf c i ws fr po) := by
 have a := jt g
 have s := a.g4
 have u := a.gs i o
 have v := GMem.none h j l p q
 have d := GMem.lay (words := bA ws (cJ c i).2.1.toNat) (x := ⟨fr, po, iK⟩) v (show i < 16 by omega) EC (cJ c i).2.1.toNat (by omega) (by grind)
 have w := qN a.gs c.gl.length (Qam _)
 obtain ⟨b, n⟩ : ∃ b : Nat, dM c c.gl.length = (b : Int) := ⟨(dM c c.gl.length).toNat, by omega⟩
 have y := a4M (ws := ws) (c := c) h j l (show i < 16 by omega)
 have z := rX c c.gl.length
 have e : b + c.nl.length ≤ (laid c i ws fr po).fr.length := by grind [cp]
 exact (d.rings g (fun t A => by
  show aN (cI i (bA ws (cJ c i).2.1.toNat) (cJ c i).2.1.toNat ⟨fr, po, iK⟩).pg t = false
  rw [yU _ (by omega) t A]; exact wH _) b n (fun k B => by
  show (d6 (cI i (bA ws (cJ c i).2.1.toNat) (cJ c i).2.1.toNat ⟨fr, po, iK⟩).po (b + k)).1 ≠ _
  rw [(yT _).2]; exact r b k n B) e c.nl.length (Qam _)).1
abbrev g0 : Gu := ⟨⟨List.replicate 16 0, 0, nK⟩, du, du, du, yR, 0, BG, false, [0, 0, 0, 0], 0, [], 0⟩
abbrev gA (gb : Nat) (z : Gz) (g : Gu) (x : Mm) (R : List HP) : List HP := pt gb (dA z g) :: pt z.x.r (dF g.c.rl g.c.pc) :: pt z.x.c (eg g.c.cs z.i) :: gB z.tr g.es :: mQ z.x.v (g.ls, g.ln) :: mR z.x.t g.tm :: gC z.x.m ⟨z.pv, z.ps, z.pm, g.bud, x.fr, x.pg⟩ :: pt z.q0 (qO true g.qa) :: pt z.q1 (qO true g.qb) :: pt z.q2 (qO true g.qc) :: R
theorem a4N W0 R c (h : CfK W0 c) (r : rt c = true) i (s : i < c.gl.length) ps pb fr po (t : cz fr) (u : PoOk po) (w : po.length = fr.length) (C : 0 < fr.length) (g : (cJ c i).2.1 ≤ ((bS po i).length))
    a cap ws (D : ∀ A, cG (aQ W0 A) a 1 iJ ws) (E : ∀ y ∈ ws, y < 4294967296) (F : ws.length < 9223372036854775808) (q : GMem i (jf c i ws fr po)) :
    bF Tryz.prog W0 40 [.agg (dy c).toArray, .int .i64 i, pV ps, pV pb, .slice a ws.length cap] (cR pb (ps, po) :: bD ps fr :: R)
      (fun v B => ∃ e z b, v = .tuple #[pV e, .int .i64 0] ∧ z.c = c ∧ z.i = i ∧ z.ps = ps ∧ z.pb = pb ∧ z.wv = .slice (some ⟨b, 0, none⟩) (bA ws 8).length (bA ws 8).length ∧ B = gA e z g0 (jf c i ws fr po) (pt z.bx td :: pt b (ag ((bA ws 8).map wV) 38) :: cR pb (ps, (jf c i ws fr po).po) :: bD ps (jf c i ws fr po).fr :: R)) := by
 refine gQ (a0y c h r i s ps pb fr po t u w C g a cap ws D E F) fun v B G => ?_
 obtain ⟨e, x, H, I, j, k, l, b, f, n, o, p, rfl, rfl⟩ := G
 refine ⟨_, ⟨e, ⟨x, j, k, l, f, ps, n, pb, o, p, .slice (some ⟨b, 0, none⟩) (bA ws 8).length (bA ws 8).length, i, c⟩, b, rfl, rfl, rfl, rfl, rfl, rfl, rfl⟩, ?_⟩
 have J := Mg q.fr q.pg q.pl
 refine Ent.trans (B := pt e (ag (B5 x j k l c i (.slice (some ⟨b, 0, none⟩) (bA ws 8).length (bA ws 8).length) pb f o p) 149) :: rZ x i H I f (kH 6 (cq [pt j (qO true du), pt k (qO true du), pt l (qO true du)]) :: pt f (cg ps n 0) :: pt n (bI (eZ c i c.nl.length (laid c i ws fr po).pg)) :: pt o td :: gB p [] :: pt b (ag ((bA ws 8).map wV) 38) :: cR pb (ps, (laid c i ws fr po).po) :: bD ps (laid c i ws fr po).fr :: R)) inferInstance ?_
 refine (Ent.cons (a4I J)).trans ?_
 obtain ⟨m, d⟩ : ∃ m, jf c i ws fr po = m := ⟨_, rfl⟩
 have K : (laid c i ws fr po).fr = m.fr := by rw [← d]; rfl
 have L : eZ c i c.nl.length (laid c i ws fr po).pg = m.pg := by rw [← d]; rfl
 have M : (laid c i ws fr po).po = m.po := by rw [← d]; rfl
 rw [d, K]
 try rw [L]
 try rw [M]
 exact Ent.trans (B := pt e (dA ⟨x, j, k, l, f, ps, n, pb, o, p, .slice (some ⟨b, 0, none⟩) (bA ws 8).length (bA ws 8).length, i, c⟩ g0) :: Fv x j k l i f ps n m.fr m.pg (pt o td :: gB p [] :: pt b (ag ((bA ws 8).map wV) 38) :: cR pb (ps, m.po) :: bD ps m.fr :: R)) ent_refl inferInstance
@[reducible] def pu (p s b1 b2 b3 : Nat) : Cfg := ⟨1, some ⟨b1, 0, none⟩, 2, [(0, (p : Int), (s : Int)), (1, 2, 0)], none, 0, [], none, 0, [], some ⟨b2, 0, none⟩, 1, [(0, 1)], some ⟨b3, 0, none⟩, 1, [(0, 1)], -1, 0⟩
abbrev Mi (p s b1 b2 b3 : Nat) (R : List HP) : List HP := pt b1 (ag ([(0, (p : Int), (s : Int)), (1, 2, 0)].flatMap i9) 92) :: pt b2 (ag ([((0 : Int), (1 : Int))].flatMap jr) 94) :: pt b3 (ag ([((0 : Int), (1 : Int))].flatMap jr) 96) :: R
def lP (pages : Nat) : Nat := 2 + pages % 6
def se (pages spare : Nat) : Nat := spare % (8 - lP pages + 1)
theorem Mj n : 2 ≤ lP n ∧ lP n ≤ 7 := by unfold lP; omega
theorem a4O n m : se n m ≤ 8 - lP n := by
 have := Qcd m (show 0 < 8 - lP n + 1 by omega)
 unfold se; omega
theorem Mk : ∀ p, p < 8 → 2 ≤ p → ∀ s, s < 8 → s ≤ 8 - p → ∀ c d e, rt (pu p s c d e) = true := by
 intro p f g s h i c d e
 have a : p = 2 ∨ p = 3 ∨ p = 4 ∨ p = 5 ∨ p = 6 ∨ p = 7 := by omega
 have b : s = 0 ∨ s = 1 ∨ s = 2 ∨ s = 3 ∨ s = 4 ∨ s = 5 ∨ s = 6 := by omega
 rcases a with rfl | rfl | rfl | rfl | rfl | rfl <;> rcases b with rfl | rfl | rfl | rfl | rfl | rfl | rfl <;> first | (exfalso; omega) | (show rt _ = true; kernel_rfl)
theorem Ml (pages spare : Nat) (hp : pages < 256) (hs : spare < 256) : sP W0 5 [.int .u8 pages, .int .u8 spare] R (fun v B => ∃ b1 b2 b3, v = .agg (dy (pu (lP pages) (se pages spare) b1 b2 b3)).toArray ∧ B = Mi (lP pages) (se pages spare) b1 b2 b3 R) := by
 have a := Mj pages
 refine am func5 ntmps5 ?_
 refine bu fun b1 => ?_
 refine aa (dV rfl rfl (by decide) (iE pages 6)) ?_
 refine aa (bG (cj (by omega))) ?_
 refine aa (dh rfl rfl (by rw [cj (by omega)]; unfold lP; omega : IntKind.wrap .i64 (2 + ((pages % 6 : Nat) : Int)) = ((lP pages : Nat) : Int))) ?_
 refine aa (bG (cj (by omega))) ?_
 refine aa gz ?_
 refine aa (dQ (8 - lP pages + 1)) ?_
 refine aa (dV rfl rfl (by omega) (iE spare (8 - lP pages + 1))) ?_
 refine dw (iA mZ l6 a7P rfl (fp rfl rfl (fp rfl rfl hJ)) rfl (by decide) (by decide) (by decide)) fun b1 => ?_
 refine dw (iA zo zj a7Q rfl (fp rfl rfl hJ) rfl (by decide) (by decide) (by decide)) fun b2 => ?_
 refine dw (iA Nt Nn a7R rfl (fp rfl rfl hJ) rfl (by decide) (by decide) (by decide)) fun b3 => ?_
 refine ar aA ?_
 refine gj (b := b1) (o' := ag ([(0, ((lP pages : Nat) : Int), ((se pages spare : Nat) : Int)), (1, 2, 0)].flatMap i9) 92) rfl ?_
 refine gj (b := b2) (o' := ag ([((0 : Int), (1 : Int))].flatMap jr) 94) rfl ?_
 refine gj (b := b3) (o' := ag ([((0 : Int), (1 : Int))].flatMap jr) 96) rfl ?_
 refine aV (.cons (b0 FX v8 rfl rfl) .nil) ?_
 exact ⟨_, ⟨b1, b2, b3, rfl, rfl⟩, IO⟩
theorem Mn {W0 W p s b1 b2 b3 R} (a : Own W0 W (Mi p s b1 b2 b3 R)) : CfK W (pu p s b1 b2 b3) :=
  ⟨⟨w9 a (sX (b := b1) (fun _ => rfl) rfl), fun _ => Da, fun _ => Da, w9 a (sX (b := b2) (fun _ => rfl) rfl), w9 a (sX (b := b3) (fun _ => rfl) rfl), Qam _⟩, Qam _⟩
theorem Fz {c} (l : rt c = true) {i} (h : i < c.gl.length) ws : GMem i (jf c i ws (List.replicate (cp c) cC) (e7 c (cp c))) := by
 have d := jt l
 have g : (List.replicate (cp c) cC).length = cp c := by simp
 refine GMem.made l h (cz.new _) (AU d _) (by rw [pd, g]) ?_ (fun f a e => ?_) (fun f a _ => ?_) (fun b k p r e => ?_) g
 have m := Ep d h
 have n := (d.gs i h).2.2.1
 omega
 rw [pd] at a
 rw [uD a, Qad a] at e
 cases q : jG c f with
 | some j => rw [q] at e; have := (QcY e).2; cases this
 | none => rw [q] at e; have := (QcY e).2; cases this
 grind [pd]
 have o := rX c c.gl.length
 have a : b + k < cp c := by grind [cp]
 rw [uD a, Qad a] at e
 cases q : jG c ((b + k : Nat) : Int) with
 | some j =>
  have m := (y8 d).1 q
  have n := AT d (show j + 1 ≤ c.gl.length by omega) (Qam _)
  omega
 | none => rw [q] at e; simp [uC] at e
theorem a4P {c} (b : rt c = true) {k} (d : k < c.nl.length) : (ie c k).1 ≠ (ie c k).2 := by
 obtain ⟨_, _, _, _, _, a, _⟩ := Jn b
 simp only [jE, QcS] at a
 have := Jk a.2 d
 intro e
 simp only [nB, Bool.not_eq_false', Qan, Qak] at this
 exact this.1.2 e
abbrev dB (rl : List Nat) (pc : Nat) : Obj := ag (rl.map wV ++ [wV pc]) 234
abbrev dT (cs : List Nat) (id : Nat) : Obj := ag (cs.map wV ++ [.int .i64 id]) 353
section
variable {rl : List Nat} {pc : Nat}
theorem r9 (h : rl.length = 16) : (rl.map wV ++ [wV pc]).length = 17 := by simp [h]
theorem Mo (h : rl.length = 16) {n} (a : n < 16) : (rl.map wV ++ [wV pc])[n * 1]? = some (wV (bP rl n)) := by
 have : n < rl.length := by omega
 rw [Qaz, QaB (by grind)]
 simp [bP, List.getD, this]
theorem oz (h : rl.length = 16) : (rl.map wV ++ [wV pc])[16]? = some (wV pc) := by
 grind
theorem FA (h : rl.length = 16) {n v} (a : n < 16) : (rl.map wV ++ [wV pc]).set (n * 1) (wV v) = (rl.set n v).map wV ++ [wV pc] := by
 simp_all
theorem tJ (h : rl.length = 16) {v} : (rl.map wV ++ [wV pc]).set 16 (wV v) = rl.map wV ++ [wV v] := by
 simp_all
theorem uT (b n : Nat) (h : rl.length = 16) (c : n < 16) : sQ W0 309 [pV b, iQ n] (pt b (dB rl pc) :: R) (.tuple #[wV (bP rl n), iQ 0]) (pt b (dB rl pc) :: R) := by
 refine am func309 ntmps309 ?_
 refine dk rfl rfl rfl (fun a => ?_) fun a => ?_
 omega
 refine aw ?_
 refine aC rfl (fun d => ?_) fun d => ?_
 omega
 refine aw ?_
 refine aa (eG c) ?_
 refine aa (aE (aI (Mo h c))) ?_
 exact ax ao
theorem wI b x i (h : rl.length = 16) : sQ W0 58 [pV b, iQ i, wV x] (pt b (dB rl pc) :: R) (iQ (if gK i then 0 else 1)) (pt b (dB (if gK i then j8 rl i.toNat x else rl) pc) :: R) := by
 obtain ⟨z, c⟩ : ∃ z, gK i = z := ⟨_, rfl⟩
 rw [c]
 refine am func58 ntmps58 ?_
 refine cn (fun a => ?_) fun a => ?_
 refine ac ?_
 obtain rfl : z = false := by rw [← c]; exact Qal (by omega)
 rw [Qaa QbG, Qaa QbG]
 exact ao
 refine ai (fun d => ?_) fun d => ?_
 refine ac ?_
 obtain rfl : z = false := by rw [← c]; exact Qal (by omega)
 rw [Qaa QbG, Qaa QbG]
 exact ao
 obtain rfl : z = true := by rw [← c]; exact Qai (by omega)
 obtain ⟨n, rfl⟩ : ∃ n : Nat, i = (n : Int) := ⟨i.toNat, by omega⟩
 rw [Qaf, Qad (show true = true from rfl), Qad (show true = true from rfl)]
 refine ai (fun e => ?_) fun e => ?_
 refine aa (eG (by omega)) ?_
 refine ar (dt (by grind) (FA h (by omega))) ?_
 refine ac ?_
 rw [j8, Qaa (by omega)]
 exact ao
 refine ac ?_
 rw [j8, Qad (by omega)]
 exact ao
end
section
variable {cs : List Nat} {id : Nat}
theorem uU (h : CsOk cs) : (cs.map wV ++ [Value.int .i64 id]).length = 8 := by simp [h.len]
theorem tK (h : CsOk cs) {n} (a : n < 7) : (cs.map wV ++ [Value.int .i64 id])[n * 1]? = some (wV (d9 cs n)) := by
 have : n < cs.length := by rw [h.len]; exact a
 rw [Qaz, QaB (by grind)]
 simp [d9, List.getD, this]
theorem a4Q (h : CsOk cs) : (cs.map wV ++ [Value.int .i64 id])[7]? = some (iQ id) := by
 rw [Qbn (by rw [Qay, h.len]; decide), Qay, h.len]; rfl
theorem uV (h : cs.length = 7) {n v} (a : n < 7) : (cs.map wV ++ [Value.int .i64 id]).set (n * 1) (wV v) = (cs.set n v).map wV ++ [iQ id] := by
 simp_all
def FB (b : Nat) : Bool := decide (b = 1 ∨ b = 2 ∨ b = 4 ∨ b = 8)
theorem a4R : ∀ y, y < 16 → ∀ b, b < 16 → FB b = true → ((y &&& b = b) ↔ ¬ (y &&& b = 0)) := by decide +kernel
theorem a4S : ∀ b, b < 16 → 15 &&& b = b := by decide +kernel
theorem a4T x {b} (d : FB b = true) : (((x &&& b : Nat)) == (b : Int)) = (x &&& b != 0) := by
 have c : b < 16 := by have := Qar d; omega
 have h : x &&& b = (x % 16) &&& b := by
  rw [← rI (a := x) (n := 4), Nat.and_assoc, show (2 : Nat) ^ 4 - 1 = 15 from rfl, a4S b c]
 have e := a4R (x % 16) (Qcd _ (by decide)) b c d
 rw [← h] at e
 rw [Qag, QaZ, QbN]
 constructor
 omega
 omega
theorem tL W0 R b (h : CsOk cs) k (c : FB k = true) : sQ W0 220 [pV b, wV k] (pt b (dT cs id) :: R) (.bool (kD cs k)) (pt b (dT cs id) :: R) := by
 have a : k < 4294967296 := by have := Qar c; omega
 refine am func220 ntmps220 ?_
 refine aa (fB iO aX rfl rfl (i := 5) rfl (by decide) (by first | exact Qac _ | rfl)) ?_
 refine aa (aE (aI (tK h (n := 5) (by decide)))) ?_
 refine ae rfl (eC rfl rfl (lh (h.at_ 5) a)) ?_
 refine ae rfl (aM rfl) (ae rfl (iq rfl rfl) (ae rfl (bC rfl) (aL (aH (dE (bU (.inl rfl) (.cons (aR rfl) .nil) ?_))))))
 exact ⟨_, ⟨Qah Value.bool (a4T _ c), rfl⟩, IO⟩
theorem Mp b (h : CsOk cs) : sQ W0 221 [pV b] (pt b (dT cs id) :: R) (.bool (d9 cs 1 != 0)) (pt b (dT cs id) :: R) := by
 refine am func221 ntmps221 ?_
 refine aa (fB iO aX rfl rfl (i := 1) rfl (by decide) (by first | exact Qac _ | rfl)) ?_
 refine ae rfl (co pZ rfl (aI (tK h (n := 1) (by decide)))) ?_
 refine ae rfl (oJ rfl rfl) (ae rfl (bC rfl) (aL (aH (dE (bU (.inl rfl) (.cons (aR rfl) .nil) ?_)))))
 exact ⟨_, ⟨Qah Value.bool (yw _), rfl⟩, IO⟩
theorem a4U b (h : CsOk cs) : sQ W0 215 [pV b] (pt b (dT cs id) :: R) (.bool (od cs)) (pt b (dT cs id) :: R) := by
 obtain ⟨z, c⟩ : ∃ z, (d9 cs 1 != 0) = z := ⟨_, rfl⟩
 refine am func215 ntmps215 ?_
 refine ah (ap call221 (Mp b h)) ?_
 rw [c]
 refine bN (fun a => ?_) fun a => ?_
 rw [show od cs = kD cs 1 by rw [od, c, a, Qbe]]
 refine ah (ap vj (tL W0 _ b h 1 (by decide))) ?_
 exact ac ao
 rw [show od cs = false by rw [od, c, show z = false by simpa using a, QcR]]
 exact ac ao
theorem BI p k : sQ W0 302 [.bool p, wV k] R (wV (if p then k else 0)) R := by
 refine am func302 ntmps302 ?_
 refine ai (fun a => ?_) fun a => ?_
 rw [Qad a]
 exact ac ao
 rw [Qaa a]
 exact ac ao
theorem BJ {p : Bool} {s k} : (s ||| (if p then k else 0)) = if p then s ||| k else s := by
 grind
theorem a9A {p : Bool} {k} (a : k < 4294967296) : (if p then k else 0) < 4294967296 := by split <;> omega
theorem BK b (h : CsOk cs) : sQ W0 144 [pV b] (pt b (dT cs id) :: R) (.agg (qW cs).toArray) (pt b (dT cs id) :: R) := by
 have h0 := h.at_ 0
 have e1 : d9 cs 0 / 256 % 32 = gH cs := by rw [gH, show (31 : Nat) = 2 ^ 5 - 1 from rfl, rI]
 have e2 : ((((d9 cs 0 % 2 : Nat) : Int)) == 1) = i6 cs := by
  grind [i6]
 have hm : gH cs < 32 := by omega
 refine am func144 ntmps144 ?_
 refine bu fun b1 => ?_
 refine bz [b] 20 fun hS => ?_
 refine aj 0 3 hS ?_
 refine az 3 hS (fB iO aX rfl rfl (i := 0) rfl (by decide) (by first | exact Qac _ | rfl)) ?_
 refine az 4 hS (aE (dq (k := 0) rfl (tK h (n := 0) (by decide)))) ?_
 refine az 5 hS (dV rfl rfl (by decide) (iE (d9 cs 0) 2)) ?_
 refine aj 6 4 hS ?_
 refine az 10 hS (fB iO aX rfl rfl (i := 0) rfl (by decide) (by first | exact Qac _ | rfl)) ?_
 refine az 11 hS (aE (dq (k := 0) rfl (tK h (n := 0) (by decide)))) ?_
 refine az 12 hS (j5 rfl rfl (by decide) (jU (k := .u32) (s := 8) (by decide))) ?_
 refine az 13 hS (dV rfl rfl (by decide) (by rw [show (2 : Nat) ^ 8 = 256 from rfl, ← e1]; exact iE (d9 cs 0 / 256) 32 : Int.tmod ((d9 cs 0 / 2 ^ 8 : Nat) : Int) 32 = ((gH cs : Nat) : Int))) ?_
 refine az 14 hS (bG (cj (by omega))) ?_
 refine aj 15 1 hS ?_
 refine bY 16 (ap vj (tL W0 _ b h 4 (by decide))) fun hS => ?_
 refine aj 17 2 hS ?_
 refine cm 19 aA fun hS => ?_
 refine aJ ?_
 refine aV (.cons (b0 C4 wO rfl rfl) .nil) ?_
 refine aG ?_
 rw [qW, ← e2]
 rfl
theorem a4V b (h : CsOk cs) (f : id < 4) (n : Nat) (k : n < 9) clock (l : 0 ≤ clock) : sQ W0 315 [pV b, iQ n, iQ clock] (pt b (dT cs id) :: R) (.tuple #[wV (if dR cs then oW cs id clock.toNat n else 0), iQ (if dR cs then 0 else 4)]) (pt b (dT cs id) :: R) := by
 obtain ⟨q, rfl⟩ : ∃ q : Nat, clock = (q : Int) := ⟨clock.toNat, by omega⟩
 rw [Qaf]
 obtain ⟨d, a⟩ : ∃ z, dR cs = z := ⟨_, rfl⟩
 rw [a]
 refine am func315 ntmps315 ?_
 refine ah (ap vj (tL W0 _ b h 4 (by decide))) ?_
 rw [show kD cs 4 = d from a]
 refine ai (fun e => ?_) fun e => ?_
 refine ax ?_
 rw [show d = false by simpa using e]
 exact ao
 obtain rfl : d = true := by grind
 rw [Qad rfl, Qad rfl]
 refine dk rfl rfl rfl (fun c => ?_) fun c => ?_
 omega
 refine aw ?_
 refine aC rfl (fun g => ?_) fun g => ?_
 omega
 refine aw ?_
 refine ai (fun i => ?_) fun i => ?_
 refine aa (bG (d8 (q : Int))) ?_
 refine ax ?_
 obtain rfl : n = 7 := by omega
 exact ao
 refine ai (fun j => ?_) fun j => ?_
 refine aa (aE (aI (a4Q h))) ?_
 refine aa (bG (cZ (by omega))) ?_
 refine ax ?_
 obtain rfl : n = 8 := by omega
 exact ao
 refine aa (eG (by omega)) ?_
 refine aa (aE (aI (tK h (n := n) (by omega)))) ?_
 refine ax ?_
 rw [oW, Qaa (by omega), Qaa (by omega)]
 exact ao
theorem a4W b (h : CsOk cs) (n v : Nat) (j : n < 9) (e : v < 4294967296) (f : dR cs = true) : sP W0 316 [pV b, iQ n, wV v] (pt b (dT cs id) :: R) (fun r B => r = iQ (if n ≤ 6 then 0 else 1) ∧ B = pt b (dT (if n ≤ 6 then cs.set n (kE n v) else cs) id) :: R) := by
 refine am func316 ntmps316 ?_
 refine kv (ap vj (tL W0 _ b h 4 (by decide))) ?_
 rw [show kD cs 4 = true from f]
 refine au 3 ?_
 refine jT ?_
 refine dk rfl rfl rfl (fun c => ?_) fun c => ?_
 omega
 refine aw ?_
 refine ai (fun g => ?_) fun g => ?_
 refine ac ?_
 rw [Qaa (by omega), Qaa (by omega)]
 exact ao
 rw [Qad (show n ≤ 6 by omega), Qad (show n ≤ 6 by omega)]
 refine aC rfl (fun i => ?_) fun i => ?_
 refine au 2 ?_
 refine jS 3 (eC rfl rfl (lh e (by decide))) ?_
 refine cy (fun _ : Unit => True) (fun _ => [(0, pV b), (1, iQ n), (7, wV (kE n v))]) (fun _ => pt b (dT cs id) :: R) ?_ ?_
 refine au 6 ?_
 refine aC rfl (fun d => ?_) fun d => ?_
 omega
 refine aw ?_
 refine df () ?_ ?_ ?_
 trivial
 · rw [kE, Qad (by omega)]
   repeat (first | exact bK | refine aZ rfl ?_)
 exact IO
 intro _ _
 have a : n < 7 := by omega
 refine aw ?_
 refine aa (eG a) ?_
 refine ar (dt (by rw [uU h]; omega) (uV h.len a)) ?_
 exact ac ao
 refine au 2 ?_
 refine cy (fun _ : Unit => True) (fun _ => [(0, pV b), (1, iQ n), (7, wV (kE n v))]) (fun _ => pt b (dT cs id) :: R) ?_ ?_
 refine au 6 ?_
 refine ai (fun d => ?_) fun d => ?_
 refine aa (eC rfl rfl (lh e (by decide))) ?_
 refine df () ?_ ?_ ?_
 trivial
 · rw [kE, Qaa (by omega), Qad (by omega)]
   repeat (first | exact bK | refine aZ rfl ?_)
 exact IO
 refine df () ?_ ?_ ?_
 trivial
 · rw [kE, Qaa (by omega), Qaa (by omega)]
   repeat (first | exact bK | refine aZ rfl ?_)
 exact IO
 intro _ _
 have a : n < 7 := by omega
 refine aw ?_
 refine aa (eG a) ?_
 refine ar (dt (by rw [uU h]; omega) (uV h.len a)) ?_
 exact ac ao
theorem Mq b pc cause tval (h : CsOk cs) (e : pc < 4294967296) (k : cause < 4294967296) (o : tval < 4294967296) : sQ W0 217 [pV b, wV pc, wV cause, wV tval] (pt b (dT cs id) :: R) (wV (d9 cs 1)) (pt b (dT (m4 cs pc cause tval) id) :: R) := by
 have l := h.trap e k o
 have q := h.enter e k o
 have r : d9 (m4 cs pc cause tval) 1 = d9 cs 1 := by grind [m4, oU, d9]
 have p : ((4 ||| (if kD cs 1 then 2 else 0)) ||| (if kD cs 4 then 8 else 0)) = oT cs 4 1 2 4 8 := by rw [BJ, BJ]; rfl
 obtain ⟨s, f⟩ : ∃ u, (if kD cs 1 then 2 else 0) = u := ⟨_, rfl⟩
 obtain ⟨t, g⟩ : ∃ u, (if kD cs 4 then 8 else 0) = u := ⟨_, rfl⟩
 have j : s < 4294967296 := by grind
 have m : t < 4294967296 := by grind
 rw [f, g] at p
 refine am func217 ntmps217 ?_
 refine aa (fB iO aX rfl rfl (i := 2) rfl (by decide) (by first | exact Qac _ | rfl)) ?_
 refine ar (dt (by grind [uU]) (uV (n := 2) h.len (by decide))) ?_
 refine aa (fB iO aX rfl rfl (i := 3) rfl (by decide) (by first | exact Qac _ | rfl)) ?_
 refine ar (dt (by rw [uU (h.set 2 pc e)]; decide) (uV (n := 3) (h.set 2 pc e).len (by decide))) ?_
 refine aa (fB iO aX rfl rfl (i := 4) rfl (by decide) (by first | exact Qac _ | rfl)) ?_
 refine ar (dt (by rw [uU ((h.set 2 pc e).set 3 cause k)]; decide) (uV (n := 4) ((h.set 2 pc e).set 3 cause k).len (by decide))) ?_
 refine bz [] 13 fun c => ?_
 refine aj 0 2 c ?_
 refine aj 5 1 c ?_
 refine aj 9 2 c ?_
 refine bY 2 (ap vj (tL (cs := oU cs pc cause tval) W0 _ b l 1 (by decide))) fun c => ?_
 refine bQ 3 (aB GO (BI _ 2)) ?_; clear c
 rintro _ v ⟨rfl, d⟩
 obtain rfl := d.symm
 rw [DL, f]
 refine ⟨aT, fun c => ?_⟩
 refine az 4 c (mo rfl rfl (mt (by decide) j (a := 4))) ?_
 refine bY 6 (ap vj (tL (cs := oU cs pc cause tval) W0 _ b l 4 (by decide))) fun c => ?_
 refine bQ 7 (aB GO (BI _ 8)) ?_; clear c
 rintro _ v ⟨rfl, d⟩
 obtain rfl := d.symm
 rw [DL, g]
 refine ⟨aT, fun c => ?_⟩
 refine az 8 c (mo rfl rfl (by rw [mt (Qcc (n := 32) (by decide) j) m, p])) ?_
 refine az 11 c (fB iO aX rfl rfl (i := 5) rfl (by decide) (by first | exact Qac _ | rfl)) ?_
 refine cm 12 (dt (by grind [uU]) (uV (n := 5) l.len (by decide))) fun c => ?_
 refine aJ ?_
 refine gj (b := b) (o' := dT (m4 cs pc cause tval) id) rfl ?_
 refine aw ?_
 refine aa (fB iO aX rfl rfl (i := 1) rfl (by decide) (by first | exact Qac _ | rfl)) ?_
 refine aa (aE (aI (tK q (n := 1) (by decide)))) ?_
 refine ac ?_
 rw [r]
 exact ao
theorem a4X b (h : CsOk cs) : sQ W0 314 [pV b] (pt b (dT cs id) :: R) (wV (d9 cs 2)) (pt b (dT (oV cs) id) :: R) := by
 have l := h.leave
 have m : d9 (oV cs) 2 = d9 cs 2 := by grind [oV, d9]
 have j : d9 cs 5 &&& 10 < 4294967296 := QaI Qbw (h.at_ 5)
 have k : (((d9 cs 5 &&& 10) ||| (if kD cs 2 then 1 else 0)) ||| (if kD cs 8 then 4 else 0)) = oT cs (d9 cs 5 &&& 10) 2 1 8 4 := by rw [BJ, BJ]; rfl
 obtain ⟨o, d⟩ : ∃ u, (if kD cs 2 then 1 else 0) = u := ⟨_, rfl⟩
 obtain ⟨p, e⟩ : ∃ u, (if kD cs 8 then 4 else 0) = u := ⟨_, rfl⟩
 have f : o < 4294967296 := by grind
 have g : p < 4294967296 := by grind
 rw [d, e] at k
 refine am func314 ntmps314 ?_
 refine aa (fB iO aX rfl rfl (i := 5) rfl (by decide) (by first | exact Qac _ | rfl)) ?_
 refine aa (aE (aI (tK h (n := 5) (by decide)))) ?_
 refine aa (eC rfl rfl (lh (h.at_ 5) (by decide) (b := 10))) ?_
 refine bz [] 14 fun a => ?_
 refine aj 0 3 a ?_
 refine aj 6 1 a ?_
 refine aj 10 2 a ?_
 refine bY 3 (ap vj (tL W0 _ b h 2 (by decide))) fun a => ?_
 refine bQ 4 (aB GO (BI _ 1)) ?_; clear a
 rintro _ q ⟨rfl, c⟩
 obtain rfl := c.symm
 rw [d]
 refine ⟨aT, fun a => ?_⟩
 refine az 5 a (mo rfl rfl (mt j f)) ?_
 refine bY 7 (ap vj (tL W0 _ b h 8 (by decide))) fun a => ?_
 refine bQ 8 (aB GO (BI _ 4)) ?_; clear a
 rintro _ q ⟨rfl, c⟩
 obtain rfl := c.symm
 rw [e]
 refine ⟨aT, fun a => ?_⟩
 refine az 9 a (mo rfl rfl (by rw [mt (Qcc (n := 32) j f) g, k])) ?_
 refine az 12 a (fB iO aX rfl rfl (i := 5) rfl (by decide) (by first | exact Qac _ | rfl)) ?_
 refine cm 13 (dt (by grind [uU]) (uV (n := 5) h.len (by decide))) fun a => ?_
 refine aJ ?_
 refine gj (b := b) (o' := dT (oV cs) id) rfl ?_
 refine aw ?_
 refine aa (fB iO aX rfl rfl (i := 2) rfl (by decide) (by first | exact Qac _ | rfl)) ?_
 refine aa (aE (aI (tK l (n := 2) (by decide)))) ?_
 refine ac ?_
 rw [m]
 exact ao
end
def g6 (n : Nat) : Value := .int .i64 ((n : Nat) : Int)
def re : List Value := List.replicate 8 (.bool false)
def rf : List Value := List.replicate 8 (.int .i64 0)
abbrev kc (a : Option Addr) (n c : Nat) : Obj := ag ([.slice a n c] ++ re ++ rf) 229
def g7 (b : Nat) (L : List Nat) : HP := chk (fun C => ∃ a c, C = [pt b (kc a L.length c), osl 3 1 (.slice a L.length c) (L.map g6)])
section
variable {P : Program} {W0 : World} {N : FSz} {K : Act → World → Prop} {e : bi} {A B R R1 R2 : List HP} {b n : Nat} {L : List Nat} {f : FuncId} {args : List Value} {Post : Value → List HP → Prop}
theorem Mr (h : ∀ a c, bF P W0 f args (pt b (kc a L.length c) :: osl 3 1 (.slice a L.length c) (L.map g6) :: R) Post) : bF P W0 f args (g7 b L :: R) Post :=
  qk fun C d => by obtain ⟨a, c, rfl⟩ := d; exact h a c
theorem wJ {a c vs} [d : Tk pt b A (kc a n c) R1] [e : Tk (osl 3 1) (.slice a n c) R1 vs R2] (f : vs = L.map g6) (g : n = L.length) [k : Ent R2 B] : Ent A (g7 b L :: B) := by
 subst f; subst g
 exact (Ent.ofPerm (d.perm.trans (e.perm.cons _))).trans ((Ent.cons (Ent.cons k)).trans (fK (R := B) (C := [_, _]) ⟨a, c, rfl⟩))
end
theorem a4Y n : sQ W0 114 [iQ n] R (.bool (gx n)) R := by
 refine am func114 ntmps114 ?_
 refine bN (fun a => ?_) fun a => ?_
 rw [show gx n = decide (n < 8) by unfold gx; apply QaA.2; omega]
 exact ac ao
 rw [show gx n = false by unfold gx; apply Qal; omega]
 exact ac ao
theorem a9B {L : List Nat} {i n} hi (h : ∀ k, k < i → ((L.getD k 0) : Int) ≠ n) (a : (L[i]) ≠ n) : ∀ k, k < i + 1 → (L.getD k 0) ≠ n := fun k b => by
 rcases QaC k i with q | q
 exact h k q
 grind
def oA (L : List Nat) (n : Int) : Bool := L.any fun x => ((x : Nat) : Int) == n
theorem a4Z {L n} (h : ∀ k, k < L.length → (L.getD k 0) ≠ n) : oA L n = false := by
 grind [oA, Qcv, Qbb.1]
theorem Ms b L (s : L.length < 1000) n : sQ W0 115 [pV b, iQ n] (g7 b L :: R) (.bool (oA L n)) (g7 b L :: R) := by
 refine Mr fun a c => ?_
 refine am func115 ntmps115 ?_
 refine cW (fun i : Nat => i ≤ L.length ∧ ∀ k, k < i → ((L.getD k 0 : Nat) : Int) ≠ n) (fun i => [(0, pV b), (1, iQ n), (5, iQ i)]) (fun _ => pt b (kc a L.length c) :: osl 3 1 (.slice a L.length c) (L.map g6) :: R) (fun i => L.length - i) 0 ?_ ?_
 grind
 intro i ⟨t, f⟩
 refine aw ?_
 refine aC rfl (fun p => ?_) fun p => ?_
 refine au 5 ?_
 have d : i < L.length := by omega
 refine fV (r := osl 3 1) (b := .slice a L.length c) (ku (fun h e => by have := Qah List.length e; rw [Qay, Qbr] at this; omega) fun g u q j h e l w m => ?_)
 cases h
 refine aw ?_
 refine aa (bM d) ?_
 refine ae rfl (aE (aI (v := g6 L[i]) (by grind))) ?_
 refine ae rfl (aM rfl) (ae rfl (iq rfl rfl) (aL (aH ?_)))
 refine aC rfl (fun o => ?_) fun o => ?_
 refine au 11 ?_
 refine ac ?_
 rw [show oA L n = true by unfold oA; rw [Qbo]; exact ⟨L[i], QaF d, by simpa [g6] using o⟩]
 exact ⟨_, ⟨rfl, rfl⟩, Ent.trans (B := pt b (kc (some ⟨g, 0, none⟩) L.length c) :: osl 3 1 (.slice (some ⟨g, 0, none⟩) L.length c) (L.map g6) :: R) (Ent.trans (B := pt g (ag (L.map g6 ++ j) 3) :: pt b (kc (some ⟨g, 0, none⟩) L.length c) :: R) inferInstance ((fk (g := g) (E := 3) (sz := 1) (B := pt b (kc (some ⟨g, 0, none⟩) L.length c) :: R) e l (by omega) m).trans inferInstance)) (wJ rfl rfl)⟩
 refine aw ?_
 refine eK (B := pt b (kc (some ⟨g, 0, none⟩) L.length c) :: osl 3 1 (.slice (some ⟨g, 0, none⟩) L.length c) (L.map g6) :: R) (Ent.trans (B := pt g (ag (L.map g6 ++ j) 3) :: pt b (kc (some ⟨g, 0, none⟩) L.length c) :: R) inferInstance ((fk (g := g) (E := 3) (sz := 1) (B := pt b (kc (some ⟨g, 0, none⟩) L.length c) :: R) e l (by omega) m).trans inferInstance)) ?_
 refine aw ?_
 refine aa bW ?_
 refine bR (i + 1) ?_
 grind
 refine aw ?_
 refine ac ?_
 rw [a4Z (fun k x => f k (by omega))]
 exact ⟨_, ⟨rfl, rfl⟩, wJ rfl rfl⟩
section
variable {P : Program} {W0 : World} {N : FSz} {K : Act → World → Prop} {e : bi} {A B R R1 R2 : List HP} {b n : Nat} {L : List Nat}
theorem Mt [f : Tk g7 b A L R] (h : ∀ a c, av W0 N K e (pt b (kc a L.length c) :: osl 3 1 (.slice a L.length c) (L.map g6) :: R)) : av W0 N K e A :=
  fV (r := g7) (b := b) (ni fun C d => by obtain ⟨a, c, rfl⟩ := d; exact h a c)
end
def nM (L : List Nat) (n : Int) : List Nat := if gx n && !oA L n then L ++ [n.toNat] else L
theorem Mv b L (j : L.length < 1000) n : sQ W0 43 [pV b, iQ n] (g7 b L :: R) (iQ (if gx n then 0 else 1)) (g7 b (nM L n) :: R) := by
 obtain ⟨w, e⟩ : ∃ w, gx n = w := ⟨_, rfl⟩
 obtain ⟨z, h⟩ : ∃ z, oA L n = z := ⟨_, rfl⟩
 rw [e]
 refine am func43 ntmps43 ?_
 refine ah (aB call114 (a4Y n)) ?_
 rw [e]
 refine aC rfl (fun l => ?_) fun l => ?_
 refine au 7 ?_
 refine ac ?_
 obtain rfl : w = false := by grind
 rw [show nM L n = L by rw [nM, e, QcR, Qaa QbG]]
 exact ao
 refine au 2 ?_
 refine cy (fun _ : Unit => w = true) (fun _ => []) (fun _ => g7 b (nM L n) :: R) ?_ ?_
 refine au 1 ?_
 have d : w = true := by grind
 obtain ⟨k, m⟩ : ∃ k : Nat, n = (k : Int) := ⟨n.toNat, by have := Qar (e.trans d); omega⟩
 refine aw ?_
 refine ah (ap call115 (Ms b L j n)) ?_
 rw [h]
 refine ai (fun g => ?_) fun g => ?_
 have f : z = false := by grind
 have o : nM L n = L ++ [k] := by grind [nM]
 refine Mt (b := b) fun a c => ?_
 refine aw ?_
 refine dw (jP eJ aS ml rfl rfl rfl rfl rfl (by decide) (by decide)) fun p => ?_
 refine aF rfl (eE (sz := 1) (by_ := 8) (info := Tryz.t3) eJ (by kernel_rfl) rfl rfl rfl rfl (by decide) rfl rfl en rfl rfl (by simp only [maxLen]; omega) (by omega)) ?_
 rintro _ _ ⟨i, g, rfl, rfl⟩
 refine aw ?_
 refine ar (iU (by exact rfl : ([Value.slice a L.length c] ++ re ++ rf).set 0 (.slice i (L.length + 1) g) = [.slice i (L.length + 1) g] ++ re ++ rf)) ?_
 refine bq () ?_ (he := ?_)
 exact d
 rw [o]
 exact wJ (n := L.length + 1) (L := L ++ [k]) (by rw [QaH, m]; rfl) (by simp)
 refine bq () ?_ (he := ?_)
 exact d
 have f : z = true := by grind
 rw [show nM L n = L by rw [nM, e, h, d, f]; rfl]
 exact IO
 intro _ d
 refine aw ?_
 refine ac ?_
 rw [Qad d]
 exact ao
def oB (L : List Nat) (i : Nat) : Int := if i = 0 then -1 else ((L.getD 0 0 : Nat) : Int)
theorem a40 {a n c x} (b : x < 8) : ([Value.slice a n c] ++ re ++ rf)[1 + x * 1]? = some (.bool false) := by
 have : x = 0 ∨ x = 1 ∨ x = 2 ∨ x = 3 ∨ x = 4 ∨ x = 5 ∨ x = 6 ∨ x = 7 := by omega
 rcases this with rfl | rfl | rfl | rfl | rfl | rfl | rfl | rfl <;> rfl
theorem Mw {a n c x} (b : x < 8) : ([Value.slice a n c] ++ re ++ rf)[9 + x * 1]? = some (iQ 0) := by
 have : x = 0 ∨ x = 1 ∨ x = 2 ∨ x = 3 ∨ x = 4 ∨ x = 5 ∨ x = 6 ∨ x = 7 := by omega
 rcases this with rfl | rfl | rfl | rfl | rfl | rfl | rfl | rfl <;> rfl
theorem BL {b g n c} {L : List Nat} {sp R} (f : n = L.length) (a : n ≤ c) (d : c ≤ maxLen) (e : (L.map g6 ++ sp).length = c * 1) : Ent (pt b (kc (some ⟨g, 0, none⟩) n c) :: pt g (ag (L.map g6 ++ sp) 3) :: R) (pt b (kc (some ⟨g, 0, none⟩) n c) :: osl 3 1 (.slice (some ⟨g, 0, none⟩) n c) (L.map g6) :: R) :=
  Ent.cons (fk (g := g) (E := 3) (sz := 1) (B := R) a d (by grind) e)
theorem a41 b L (F : L.length < 1000) (v : ∀ x ∈ L, x < 8) : sQ W0 300 [pV b] (g7 b L :: R) (.tuple #[iQ (L.getD 0 0), .bool (decide (L ≠ []))]) (g7 b L :: R) := by
 refine Mr fun a c => ?_
 refine am func300 ntmps300 ?_
 refine cW (fun i : Nat => i ≤ L.length) (fun i => [(0, pV b), (4, iQ (oB L i)), (5, iQ i)]) (fun _ => pt b (kc a L.length c) :: osl 3 1 (.slice a L.length c) (L.map g6) :: R) (fun i => L.length - i) 0 ?_ ?_
 omega
 intro i G
 refine aw ?_
 refine aC rfl (fun C => ?_) fun C => ?_
 refine au 2 ?_
 refine cy (fun _ : Unit => i < L.length) (fun _ => [(0, pV b), (4, iQ (oB L (i + 1))), (5, iQ i)]) (fun _ => pt b (kc a L.length c) :: osl 3 1 (.slice a L.length c) (L.map g6) :: R) ?_ ?_
 refine au 2 ?_
 have d : i < L.length := by omega
 have h : L[i] < 8 := v _ (QaF d)
 have n : 0 < i → L.getD 0 0 < 8 := fun q => by
  have : 0 < L.length := by omega
  simpa [List.getD, this] using v _ (QaF this)
 refine fV (r := osl 3 1) (b := .slice a L.length c) (ku (fun w p => by have := Qah List.length p; rw [Qay, Qbr] at this; omega) fun g H D s w p y I z => ?_)
 cases w
 have l : (L.map g6 ++ s)[i * 1]? = some (g6 L[i]) := by grind
 refine bz [b, g] 38 fun e => ?_
 refine aj 0 6 e ?_
 refine az 6 e (bM d) ?_
 refine az 7 e (aE (dq (k := 1) rfl l)) ?_
 refine aj 8 2 e ?_
 refine az 10 e (eG h) ?_
 refine az 11 e (aE (dq (k := 0) rfl (a40 h))) ?_
 refine aj 12 2 e ?_
 refine mp (t := 28) rfl ?_ ?_
 intro f
 refine aj 14 3 e ?_
 refine mp (t := 31) rfl ?_ ?_
 intro m
 refine aj 17 21 e ?_
 refine aJ ?_
 refine aa (bM d) ?_
 refine aa (aE (aI l)) ?_
 refine df () ?_ ?_ ?_
 exact d
 · have j : i = 0 := by
    grind [Nat.eq_zero_or_pos, oB]
   subst j
   rw [show oB L (0 + 1) = ((L[0] : Nat) : Int) by rw [oB, Qaa (by omega)]; simp [List.getD, d]]
   repeat (first | exact bK | refine aZ rfl ?_)
 exact Ent.trans (B := pt b (kc (some ⟨g, 0, none⟩) L.length c) :: pt g (ag (L.map g6 ++ s) 3) :: R) inferInstance (BL rfl p y z)
 intro m
 have j : 0 < i := by
  grind [Nat.eq_zero_or_pos, oB]
 have E : oB L i = ((L.getD 0 0 : Nat) : Int) := by grind [oB]
 rw [E]
 refine aj 17 6 e ?_
 refine az 23 e (bM d) ?_
 refine az 24 e (aE (dq (k := 1) rfl l)) ?_
 refine aj 25 2 e ?_
 refine az 27 e (eG h) ?_
 refine az 28 e (aE (dq (k := 0) rfl (Mw h))) ?_
 refine aj 29 4 e ?_
 refine az 33 e (eG (n j)) ?_
 refine az 34 e (aE (dq (k := 0) rfl (Mw (n j)))) ?_
 refine aj 35 3 e ?_
 refine aJ ?_
 refine aC rfl (fun u => ?_) fun u => ?_
 first | exact absurd u (by decide) | (simp at u)
 refine aw ?_
 refine df () ?_ ?_ ?_
 exact d
 · rw [show oB L (i + 1) = ((L.getD 0 0 : Nat) : Int) by rw [oB, Qaa (by omega)]]
   repeat (first | exact bK | refine aZ rfl ?_)
 exact Ent.trans (B := pt b (kc (some ⟨g, 0, none⟩) L.length c) :: pt g (ag (L.map g6 ++ s) 3) :: R) inferInstance (BL rfl p y z)
 intro f
 exact absurd (by decide) f
 intro _ d
 refine aw ?_
 refine aa bW ?_
 exact bR (i + 1) (d)
 refine aw ?_
 obtain rfl : i = L.length := by omega
 refine ai (fun A => ?_) fun A => ?_
 refine ax ?_
 obtain rfl : L = [] := by
  grind [oB]
 exact ⟨_, ⟨rfl, rfl⟩, wJ rfl rfl⟩
 have o : L ≠ [] := fun q => by subst q; exact A (by decide)
 rw [show oB L L.length = ((L.getD 0 0 : Nat) : Int) by rw [oB, Qaa (fun q => o (QaE q))], Qai o]
 refine ax ?_
 exact ⟨_, ⟨rfl, rfl⟩, wJ rfl rfl⟩
def ik (L : List Nat) (n : Int) : List Nat := L.filter fun x => ((x : Nat) : Int) != n
theorem a42 {L : List Nat} {n i} hi : ik (L.take (i + 1)) n = ik (L.take i) n ++ (if (L[i]) != n then [L[i]] else []) := by
 grind [ik, Qao]
theorem a43 b L (C : L.length < 1000) n : sQ W0 301 [pV b, iQ n] (g7 b L :: R) (.bool (oA L n)) (g7 b (ik L n) :: R) := by
 obtain ⟨z, t⟩ : ∃ z, oA L n = z := ⟨_, rfl⟩
 have l : ∀ i, (ik (L.take i) n).length ≤ i := fun i => Qba (QaL _ _) (by grind)
 rw [t]
 refine am func301 ntmps301 ?_
 refine ah (ap call115 (Ms b L C n)) ?_
 rw [t]
 refine Mt (b := b) fun a c => ?_
 refine aw ?_
 refine ge (fun X : Nat × Option Addr × Nat => X.1 ≤ L.length) (fun X => [(0, pV b), (1, iQ n), (5, .bool z), (6, .slice X.2.1 (ik (L.take X.1) n).length X.2.2), (7, iQ X.1)]) (fun X => osl 3 1 (.slice X.2.1 (ik (L.take X.1) n).length X.2.2) ((ik (L.take X.1) n).map g6) :: pt b (kc a L.length c) :: osl 3 1 (.slice a L.length c) (L.map g6) :: R) (fun X => L.length - X.1) (0, none, 0) ?_ ?_ ?_ ?_
 omega
 · repeat (first | exact bK | refine aZ rfl ?_)
 grind [fm]
 intro ⟨i, h, j⟩ hi
 dsimp only at hi ⊢
 refine aw ?_
 refine aC rfl (fun D => ?_) fun D => ?_
 refine au 2 ?_
 refine cy (fun X : Option Addr × Nat => i < L.length) (fun X => [(0, pV b), (1, iQ n), (5, .bool z), (6, .slice X.1 (ik (L.take (i + 1)) n).length X.2), (7, iQ i)]) (fun X => osl 3 1 (.slice X.1 (ik (L.take (i + 1)) n).length X.2) ((ik (L.take (i + 1)) n).map g6) :: pt b (kc a L.length c) :: osl 3 1 (.slice a L.length c) (L.map g6) :: R) ?_ ?_
 refine au 2 ?_
 have d : i < L.length := by omega
 have m := a42 (n := n) d
 have E := l i
 refine fV (r := osl 3 1) (b := .slice a L.length c) (ku (fun u k => by have := Qah List.length k; rw [Qay, Qbr] at this; omega) fun g I F o u k v J w => ?_)
 cases u
 have f : (L.map g6 ++ o)[i * 1]? = some (g6 L[i]) := by grind
 refine aw ?_
 refine aa (bM d) ?_
 refine ae rfl (co db rfl (aI f)) ?_
 refine ae rfl (aM rfl) (ae rfl (oJ rfl rfl) (aL (aH ?_)))
 refine aC rfl (fun x => ?_) fun x => ?_
 have e : ik (L.take (i + 1)) n = ik (L.take i) n ++ [L[i]] := by grind
 have p : (ik (L.take (i + 1)) n).length = (ik (L.take i) n).length + 1 := by grind
 have s : (ik (L.take (i + 1)) n).map g6 = (ik (L.take i) n).map g6 ++ [g6 L[i]] := by grind
 refine aw ?_
 refine aa (bM d) ?_
 refine aa (aE (aI f)) ?_
 refine dw (jP eJ aS ml rfl rfl rfl rfl rfl (by decide) (by decide)) fun K => ?_
 refine aF rfl (eE (sz := 1) (by_ := 8) (info := Tryz.t3) eJ (by kernel_rfl) rfl rfl rfl rfl (by decide) rfl rfl en rfl rfl (by omega) (by omega)) ?_
 rintro _ _ ⟨y, A, rfl, rfl⟩
 rw [← p, ← s]
 refine aw ?_
 refine bq (y, A) ?_ (he := ?_)
 exact d
 exact Ent.trans (B := osl 3 1 (.slice y (ik (L.take (i + 1)) n).length A) ((ik (L.take (i + 1)) n).map g6) :: pt b (kc (some ⟨g, 0, none⟩) L.length c) :: pt g (ag (L.map g6 ++ o) 3) :: R) inferInstance (Ent.cons (BL rfl k v w))
 have e : ik (L.take (i + 1)) n = ik (L.take i) n := by rw [m, Qaa (fun q => x (QbN.1 q)), Qav]
 refine aw ?_
 refine df (h, j) ?_ ?_ ?_
 exact d
 · rw [e]
   repeat (first | exact bK | refine aZ rfl ?_)
 rw [e]
 exact Ent.trans (B := osl 3 1 (.slice h (ik (L.take i) n).length j) ((ik (L.take i) n).map g6) :: pt b (kc (some ⟨g, 0, none⟩) L.length c) :: pt g (ag (L.map g6 ++ o) 3) :: R) inferInstance (Ent.cons (BL rfl k v w))
 intro ⟨G, H⟩ d
 refine aw ?_
 refine aa bW ?_
 exact bR (i + 1, G, H) (d)
 refine aw ?_
 obtain rfl : i = L.length := by omega
 rw [Qby]
 refine ar (iU (by exact rfl : ([Value.slice a L.length c] ++ re ++ rf).set 0 (.slice h (ik L n).length j) = [.slice h (ik L n).length j] ++ re ++ rf)) ?_
 refine ac ?_
 exact ⟨_, ⟨rfl, rfl⟩, wJ (L := ik L n) rfl rfl⟩
def sf (L : List Nat) : List Nat := if L = [] then [] else ik L ((L.getD 0 0 : Nat) : Int)
theorem a44 b L (a : L.length < 1000) (e : ∀ x ∈ L, x < 8) : sQ W0 216 [pV b] (g7 b L :: R) (.tuple #[iQ (L.getD 0 0), .bool (decide (L ≠ []))]) (g7 b (sf L) :: R) := by
 obtain ⟨z, c⟩ : ∃ z, decide (L ≠ []) = z := ⟨_, rfl⟩
 rw [c]
 refine am func216 ntmps216 ?_
 refine ah (ap call300 (a41 b L a e)) ?_
 rw [c]
 refine ai (fun d => ?_) fun d => ?_
 refine ah (ap call301 (a43 b L a ((L.getD 0 0 : Nat) : Int))) ?_
 refine ax ?_
 rw [sf, Qaa (by grind)]
 exact ao
 refine ax ?_
 rw [sf, Qad (by
   rcases L with _ | ⟨x, l⟩
   · rfl
   exact absurd (by grind) d)]
 obtain rfl : L = [] := by
  grind
 exact ao
@[reducible] def eR (x : Int × Int) : List Value := [.int .i64 x.1, .int .i64 x.2]
theorem yV x : (eR x).length = 2 := rfl
abbrev jg (a : Option Addr) (n c : Nat) : Obj := ag [.slice a n c] 253
def eT (b : Nat) (L : List (Int × Int)) : HP := chk (fun C => ∃ a c, C = [pt b (jg a L.length c), osl 255 2 (.slice a L.length c) (L.flatMap eR)])
section
variable {P : Program} {W0 : World} {N : FSz} {K : Act → World → Prop} {e : bi} {A B R R1 R2 : List HP} {b n : Nat} {L : List (Int × Int)} {f : FuncId} {args : List Value} {Post : Value → List HP → Prop}
theorem Mx (h : ∀ a c, bF P W0 f args (pt b (jg a L.length c) :: osl 255 2 (.slice a L.length c) (L.flatMap eR) :: R) Post) : bF P W0 f args (eT b L :: R) Post :=
  qk fun C d => by obtain ⟨a, c, rfl⟩ := d; exact h a c
theorem BM [f : Tk eT b A L R] (h : ∀ a c, av W0 N K e (pt b (jg a L.length c) :: osl 255 2 (.slice a L.length c) (L.flatMap eR) :: R)) : av W0 N K e A :=
  fV (r := eT) (b := b) (ni fun C d => by obtain ⟨a, c, rfl⟩ := d; exact h a c)
theorem rh {a c vs} [d : Tk pt b A (jg a n c) R1] [e : Tk (osl 255 2) (.slice a n c) R1 vs R2] (f : vs = L.flatMap eR) (g : n = L.length) [k : Ent R2 B] : Ent A (eT b L :: B) := by
 subst f; subst g
 exact (Ent.ofPerm (d.perm.trans (e.perm.cons _))).trans ((Ent.cons (Ent.cons k)).trans (fK (R := B) (C := [_, _]) ⟨a, c, rfl⟩))
theorem sg {b g n c sp R} (a : n = L.length) (d : n ≤ c) (e : c ≤ maxLen) (f : (L.flatMap eR ++ sp).length = c * 2) : Ent (pt b (jg (some ⟨g, 0, none⟩) n c) :: pt g (ag (L.flatMap eR ++ sp) 255) :: R) (pt b (jg (some ⟨g, 0, none⟩) n c) :: osl 255 2 (.slice (some ⟨g, 0, none⟩) n c) (L.flatMap eR) :: R) :=
  Ent.cons (fk (g := g) (E := 255) (sz := 2) (B := R) d e (by rw [cF yV, a]) f)
theorem BN {a c} [o : Tk (osl 255 2) (.slice a L.length c) A (L.flatMap eR) R] (j : L ≠ [])
    (h : ∀ g d, a = some ⟨g, 0, none⟩ → L.length ≤ c → c ≤ maxLen → (L.flatMap eR ++ d).length = c * 2 → av W0 N K e (pt g (ag (L.flatMap eR ++ d) 255) :: R)) : av W0 N K e A :=
  fV (r := osl 255 2) (b := .slice a L.length c) (ku (fun _ f => by
      have := cF yV L
      rw [f] at this
      have i : L.length = 0 := by grind
      exact absurd (Qbd.1 i) j) fun g n k d l f i p m => by
    cases l
    exact h g d rfl f i m)
end
theorem yW {L : List (Int × Int)} {sp i} hi : (L.flatMap eR ++ sp)[i * 2]? = some (iQ L[i].1) ∧ (L.flatMap eR ++ sp)[i * 2 + 1]? = some (iQ L[i].2) := by
 exact ⟨(mq yV L i 0 sp hi (by decide)).trans rfl, (mq yV L i 1 sp hi (by decide)).trans rfl⟩
def jh (L : List (Int × Int)) (n : Int) : Bool := L.any fun x => x.1 == n
theorem a45 {L n} (h : ∀ k, k < L.length → (L.getD k (0, 0)).1 ≠ n) : jh L n = false := by
 grind [jh, Qcv, Qbb.1]
theorem My b L (r : L.length < 1000) n : sQ W0 139 [pV b, iQ n] (eT b L :: R) (.bool (jh L n)) (eT b L :: R) := by
 refine Mx fun a c => ?_
 refine am func139 ntmps139 ?_
 refine cW (fun i : Nat => i ≤ L.length ∧ ∀ k, k < i → (L.getD k (0, 0)).1 ≠ n) (fun i => [(0, pV b), (1, iQ n), (5, iQ i)]) (fun _ => pt b (jg a L.length c) :: osl 255 2 (.slice a L.length c) (L.flatMap eR) :: R) (fun i => L.length - i) 0 ?_ ?_
 grind
 intro i ⟨s, e⟩
 refine aw ?_
 refine ai (fun o => ?_) fun o => ?_
 have d : i < L.length := by omega
 refine BN (a := a) (c := c) (L := L) (by grind) fun g f p h j l => ?_
 subst p
 obtain ⟨q, t⟩ := yW (sp := f) d
 refine aw ?_
 refine aa (bM d) ?_
 refine aa (aE (aI q)) ?_
 refine ai (fun m => ?_) fun m => ?_
 refine ac ?_
 rw [show jh L n = true by unfold jh; rw [Qbo]; exact ⟨L[i], QaF d, by simpa using m⟩]
 exact ⟨_, ⟨rfl, rfl⟩, Ent.trans (B := pt b (jg (some ⟨g, 0, none⟩) L.length c) :: osl 255 2 (.slice (some ⟨g, 0, none⟩) L.length c) (L.flatMap eR) :: R) (Ent.trans (B := pt b (jg (some ⟨g, 0, none⟩) L.length c) :: pt g (ag (L.flatMap eR ++ f) 255) :: R) inferInstance (sg rfl h j l)) (rh rfl rfl)⟩
 refine eK (B := pt b (jg (some ⟨g, 0, none⟩) L.length c) :: osl 255 2 (.slice (some ⟨g, 0, none⟩) L.length c) (L.flatMap eR) :: R) (Ent.trans (B := pt b (jg (some ⟨g, 0, none⟩) L.length c) :: pt g (ag (L.flatMap eR ++ f) 255) :: R) inferInstance (sg rfl h j l)) ?_
 refine aw ?_
 refine aa bW ?_
 refine bR (i + 1) ?_
 grind
 refine ac ?_
 rw [a45 (fun k u => e k (by omega))]
 exact ⟨_, ⟨rfl, rfl⟩, rh rfl rfl⟩
def kd (L : List (Int × Int)) : Nat → Int
 | 0 => -1
 | i + 1 => if kd L i < 0 ∨ (L.getD i (0, 0)).2 < (L.getD (kd L i).toNat (0, 0)).2 then (i : Int) else kd L i
theorem FC L : ∀ i, (i = 0 ∧ kd L i = -1) ∨ ∃ r, r < i ∧ kd L i = r ∧ ∀ k, k < i → (L.getD r (0, 0)).2 ≤ (L.getD k (0, 0)).2
 | 0 => .inl ⟨rfl, rfl⟩
 | i + 1 => by
  right
  rw [kd]
  rcases FC L i with ⟨b, a⟩ | ⟨r, c, a, d⟩
  simp_all
  rw [a, Qaf]
  split
  grind
  grind
theorem a46 b L (A : L.length < 1000) : sQ W0 298 [pV b] (eT b L :: R) (iQ (kd L L.length)) (eT b L :: R) := by
 refine Mx fun a c => ?_
 refine am func298 ntmps298 ?_
 refine cW (fun i : Nat => i ≤ L.length) (fun i => [(0, pV b), (3, iQ (kd L i)), (4, iQ i)]) (fun _ => pt b (jg a L.length c) :: osl 255 2 (.slice a L.length c) (L.flatMap eR) :: R) (fun i => L.length - i) 0 ?_ ?_
 omega
 intro i C
 refine aw ?_
 refine aC rfl (fun s => ?_) fun s => ?_
 refine au 2 ?_
 refine cy (fun _ : Unit => i < L.length) (fun _ => [(0, pV b), (3, iQ (kd L (i + 1))), (4, iQ i)]) (fun _ => pt b (jg a L.length c) :: osl 255 2 (.slice a L.length c) (L.flatMap eR) :: R) ?_ ?_
 refine au 2 ?_
 have d : i < L.length := by omega
 have u := FC L i
 refine BN (a := a) (c := c) (L := L) (by grind) fun g h v l m n => ?_
 subst v
 obtain ⟨D, w⟩ := yW (sp := h) d
 have E : (L.getD i (0, 0)).2 = L[i].2 := by grind
 refine bz [b, g] 21 fun e => ?_
 refine aj 0 3 e ?_
 refine mp (t := 16) rfl ?_ ?_
 intro f
 refine aj 3 18 e ?_
 refine aJ ?_
 refine df () ?_ ?_ ?_
 exact d
 · rw [show kd L (i + 1) = (i : Int) by rw [kd, Qad (.inl f)]]
   repeat (first | exact bK | refine aZ rfl ?_)
 exact Ent.trans (B := pt b (jg (some ⟨g, 0, none⟩) L.length c) :: pt g (ag (L.flatMap eR ++ h) 255) :: R) inferInstance (sg rfl l m n)
 intro f
 obtain ⟨r, F, o, x⟩ : ∃ r : Nat, r < i ∧ kd L i = (r : Int) ∧ ∀ k, k < i → (L.getD r (0, 0)).2 ≤ (L.getD k (0, 0)).2 := by
  grind
 have j : r < L.length := by omega
 obtain ⟨G, y⟩ := yW (sp := h) j
 have H : (L.getD (kd L i).toNat (0, 0)).2 = L[r].2 := by grind
 refine aj 3 5 e ?_
 refine az 8 e (bM d) ?_
 refine aj 9 1 e ?_
 refine az 10 e (aE (dq (k := 1) rfl w)) ?_
 refine aj 11 5 e ?_
 refine az 16 e (jQ vd zg rfl rfl o j (by first | exact Qac _ | rfl)) ?_
 refine aj 17 1 e ?_
 refine az 18 e (aE (dq (k := 1) rfl y)) ?_
 refine aj 19 2 e ?_
 refine aJ ?_
 refine ai (fun z => ?_) fun z => ?_
 refine df () ?_ ?_ ?_
 exact d
 · rw [show kd L (i + 1) = (i : Int) by rw [kd, Qad (.inr (by omega))]]
   repeat (first | exact bK | refine aZ rfl ?_)
 exact Ent.trans (B := pt b (jg (some ⟨g, 0, none⟩) L.length c) :: pt g (ag (L.flatMap eR ++ h) 255) :: R) inferInstance (sg rfl l m n)
 refine df () ?_ ?_ ?_
 exact d
 · have p : ¬ (kd L i < 0 ∨ (L.getD i (0, 0)).2 < (L.getD (kd L i).toNat (0, 0)).2) := fun q => by
    rcases q with q | q
    exact f q
    omega
   rw [show kd L (i + 1) = kd L i by rw [kd, Qaa p]]
   repeat (first | exact bK | refine aZ rfl ?_)
 exact Ent.trans (B := pt b (jg (some ⟨g, 0, none⟩) L.length c) :: pt g (ag (L.flatMap eR ++ h) 255) :: R) inferInstance (sg rfl l m n)
 intro _ d
 refine aw ?_
 refine aa bW ?_
 exact bR (i + 1) (d)
 refine aw ?_
 refine ac ?_
 obtain rfl : i = L.length := by omega
 exact ⟨_, ⟨rfl, rfl⟩, rh rfl rfl⟩
def gZ (L : List (Int × Int)) (n : Int) : List (Int × Int) := L.filter fun x => x.1 != n
theorem a47 {L : List (Int × Int)} {n i} hi : gZ (L.take (i + 1)) n = gZ (L.take i) n ++ (if L[i].1 != n then [L[i]] else []) := by
 grind [gZ, Qao]
theorem a48 b L (x : L.length < 1000) n : sQ W0 299 [pV b, iQ n] (eT b L :: R) (.bool (jh L n)) (eT b (gZ L n) :: R) := by
 obtain ⟨z, m⟩ : ∃ z, jh L n = z := ⟨_, rfl⟩
 have h : ∀ i, (gZ (L.take i) n).length ≤ i := fun i => Qba (QaL _ _) (by grind)
 rw [m]
 refine am func299 ntmps299 ?_
 refine ah (ap call139 (My b L x n)) ?_
 rw [m]
 refine BM (b := b) fun a c => ?_
 refine aw ?_
 refine ge (fun X : Nat × Option Addr × Nat => X.1 ≤ L.length) (fun X => [(0, pV b), (1, iQ n), (5, .bool z), (6, .slice X.2.1 (gZ (L.take X.1) n).length X.2.2), (7, iQ X.1)]) (fun X => osl 255 2 (.slice X.2.1 (gZ (L.take X.1) n).length X.2.2) ((gZ (L.take X.1) n).flatMap eR) :: pt b (jg a L.length c) :: osl 255 2 (.slice a L.length c) (L.flatMap eR) :: R) (fun X => L.length - X.1) (0, none, 0) ?_ ?_ ?_ ?_
 omega
 · repeat (first | exact bK | refine aZ rfl ?_)
 exact Ent.trans (B := pt b (jg a L.length c) :: osl 255 2 (.slice a L.length c) (L.flatMap eR) :: R) inferInstance (fm (E := 255) (sz := 2))
 intro ⟨i, o, p⟩ hi
 dsimp only at hi ⊢
 refine aw ?_
 refine aC rfl (fun y => ?_) fun y => ?_
 refine au 2 ?_
 refine cy (fun X : Option Addr × Nat => i < L.length) (fun X => [(0, pV b), (1, iQ n), (5, .bool z), (6, .slice X.1 (gZ (L.take (i + 1)) n).length X.2), (7, iQ i)]) (fun X => osl 255 2 (.slice X.1 (gZ (L.take (i + 1)) n).length X.2) ((gZ (L.take (i + 1)) n).flatMap eR) :: pt b (jg a L.length c) :: osl 255 2 (.slice a L.length c) (L.flatMap eR) :: R) ?_ ?_
 refine au 2 ?_
 have d : i < L.length := by omega
 have j := a47 (n := n) d
 have A := h i
 refine BN (a := a) (c := c) (L := L) (by grind) fun g f C r s t => ?_
 subst C
 obtain ⟨D, H⟩ := yW (sp := f) d
 refine aw ?_
 refine aa (bM d) ?_
 refine aa (aE (aI D)) ?_
 refine ai (fun u => ?_) fun u => ?_
 have e : gZ (L.take (i + 1)) n = gZ (L.take i) n ++ [L[i]] := by grind
 have k : (gZ (L.take (i + 1)) n).length = (gZ (L.take i) n).length + 1 := by grind
 have l : (gZ (L.take (i + 1)) n).flatMap eR = (gZ (L.take i) n).flatMap eR ++ [eR L[i]].flatten := by grind
 refine aa (bM d) ?_
 refine aa (dj (cQ (b := g) (vs := eR L[i]) (n := 2) (rE yV L i f d) rfl)) ?_
 refine dw (iA vd zg NB rfl (fp rfl rfl hJ) rfl (by decide) (by decide) (by decide)) fun I => ?_
 refine aF rfl (eE (sz := 2) (by_ := 16) (info := Tryz.t255) vd (by kernel_rfl) rfl rfl rfl rfl (by decide) rfl rfl en rfl rfl (by omega) (by omega)) ?_
 rintro _ _ ⟨v, w, rfl, rfl⟩
 rw [← k, ← l]
 refine aw ?_
 refine bq (v, w) ?_ (he := ?_)
 exact d
 exact Ent.trans (B := osl 255 2 (.slice v (gZ (L.take (i + 1)) n).length w) ((gZ (L.take (i + 1)) n).flatMap eR) :: pt b (jg (some ⟨g, 0, none⟩) L.length c) :: pt g (ag (L.flatMap eR ++ f) 255) :: R) inferInstance (Ent.cons (sg rfl r s t))
 have e : gZ (L.take (i + 1)) n = gZ (L.take i) n := by rw [j, Qaa (fun q => u (QbN.1 q)), Qav]
 refine df (o, p) ?_ ?_ ?_
 exact d
 · rw [e]
   repeat (first | exact bK | refine aZ rfl ?_)
 rw [e]
 exact Ent.trans (B := osl 255 2 (.slice o (gZ (L.take i) n).length p) ((gZ (L.take i) n).flatMap eR) :: pt b (jg (some ⟨g, 0, none⟩) L.length c) :: pt g (ag (L.flatMap eR ++ f) 255) :: R) inferInstance (Ent.cons (sg rfl r s t))
 intro ⟨F, G⟩ d
 refine aw ?_
 refine aa bW ?_
 exact bR (i + 1, F, G) (d)
 refine aw ?_
 obtain rfl : i = L.length := by omega
 rw [Qby]
 refine ar dX ?_
 refine ac ?_
 exact ⟨_, ⟨rfl, rfl⟩, rh (L := gZ L n) rfl rfl⟩
def BO (L : List (Int × Int)) : Nat → Nat → Nat
 | 0, k => k
 | n + 1, k => if jh L k then BO L n (k + 1) else k
theorem BQ {L n} (h : jh L n = true) : ∃ x ∈ L, x.1 = n := by
 grind [jh]
theorem FD {L} (j : L.length < 4) (h : ∀ k : Nat, k < 4 → jh L k = true) : False := by
 obtain ⟨a, e, l⟩ := BQ (h 0 (by decide))
 obtain ⟨b, f, m⟩ := BQ (h 1 (by decide))
 obtain ⟨c, g, n⟩ := BQ (h 2 (by decide))
 obtain ⟨d, i, o⟩ := BQ (h 3 (by decide))
 match L, j with
 | [], _ => cases e
 | [x], _ =>
  simp only [Qbg] at e f
  subst e; subst f; omega
 | [x, y], _ =>
  simp only [QaO, Qcj, or_false] at e f g
  rcases e with rfl | rfl <;> rcases f with rfl | rfl <;> rcases g with rfl | rfl <;> omega
 | [x, y, z], _ =>
  simp only [QaO, Qcj, or_false] at e f g i
  rcases e with rfl | rfl | rfl <;> rcases f with rfl | rfl | rfl <;> rcases g with rfl | rfl | rfl <;> rcases i with rfl | rfl | rfl <;> omega
theorem FE {L} {i : Nat} (c : jh L i = false) : ∀ n k, k ≤ i → i < k + n → (∀ j, k ≤ j → j < i → jh L j = true) → BO L n k = i
 | 0, k, d, f, _ => by omega
 | n + 1, k, d, f, e => by
  rw [BO]
  rcases Nat.eq_or_lt_of_le d with q | q
  grind
  rw [e k (Qam _) q, Qad rfl]
  exact FE c n (k + 1) q (by omega) fun j a b => e j (by omega) b
def BR (L : List (Int × Int)) : Nat := BO L 4 0
def uW (L : List (Int × Int)) (d : Int) : Int := if d < 0 then 1 else if 4 ≤ L.length then 2 else 0
def uX (L : List (Int × Int)) (d : Int) : Nat := if d < 0 then 0 else if 4 ≤ L.length then 0 else BR L
def uY (L : List (Int × Int)) (d : Int) : List (Int × Int) := if d < 0 then L else if 4 ≤ L.length then L else L ++ [(((BR L : Nat) : Int), d)]
theorem a49 b L (m : L.length < 1000) d : sQ W0 60 [pV b, iQ d] (eT b L :: R) (.tuple #[iQ (uX L d), iQ (uW L d)]) (eT b (uY L d) :: R) := by
 refine am func60 ntmps60 ?_
 refine ai (fun f => ?_) fun f => ?_
 refine ax ?_
 rw [uX, uW, uY, Qad f, Qad f, Qad f]
 exact ao
 refine BM (b := b) fun a c => ?_
 refine aw ?_
 refine ai (fun l => ?_) fun l => ?_
 refine ax ?_
 have g : 4 ≤ L.length := by omega
 rw [uX, uW, uY, Qaa f, Qaa f, Qaa f, Qad g, Qad g, Qad g]
 exact ⟨_, ⟨rfl, rfl⟩, rh rfl rfl⟩
 have h : L.length < 4 := by omega
 refine ge (fun i : Nat => i ≤ 4 ∧ ∀ k : Nat, k < i → jh L k = true) (fun i => [(0, pV b), (1, iQ d), (6, iQ i)]) (fun _ => eT b L :: R) (fun i => 5 - i) 0 ?_ ?_ ?_ ?_
 grind
 · repeat (first | exact bK | refine aZ rfl ?_)
 exact rh rfl rfl
 intro i ⟨w, e⟩
 refine aw ?_
 refine ah (ap call139 (My b L m i)) ?_
 refine ai (fun o => ?_) fun o => ?_
 refine aa bW ?_
 refine bR (i + 1) ?_
 grind [FD]
 have p : i ≠ 4 := fun q => by subst q; exact FD h e
 have r : jh L i = false := by grind
 have s : BR L = i := FE r 4 0 (QaG _) (by omega) fun j _ q => e j q
 have t : uY L d = L ++ [(((i : Nat) : Int), d)] := by grind [uY]
 have u : uX L d = i := by grind [uX]
 have v : uW L d = 0 := by grind [uW]
 rw [t, u, v]
 refine BM (b := b) fun a c => ?_
 refine aw ?_
 refine dw (iA vd zg NB rfl (fp rfl rfl hJ) rfl (by decide) (by decide) (by decide)) fun x => ?_
 refine aF rfl (eE (sz := 2) (by_ := 16) (info := Tryz.t255) vd (by kernel_rfl) rfl rfl rfl rfl (by decide) rfl rfl en rfl rfl (by simp only [maxLen]; omega) (by omega)) ?_
 rintro _ _ ⟨y, l, rfl, rfl⟩
 refine aw ?_
 refine ar dX ?_
 refine ax ?_
 exact ⟨_, ⟨rfl, rfl⟩, rh (n := L.length + 1) (L := L ++ [(((i : Nat) : Int), d)]) (by grind) (by simp)⟩
theorem a5a {l1 l2 x} (h : ((l1 ++ x :: l2).map (·.1)).Nodup) : gZ (l1 ++ x :: l2) x.1 = l1 ++ l2 := by
 rw [QaH, QaM] at h
 have h := Qbp.1 h
 have b : l1.filter (fun y => y.1 != x.1) = l1 := QaT.2 fun y a => QbN.2 (h.2.2 _ (QbP a) _ (Qbi ..))
 have c : l2.filter (fun y => y.1 != x.1) = l2 := QaT.2 fun y a => QbN.2 fun e => (Qbx.1 h.2.1).1 (e ▸ QbP a)
 unfold gZ
 rw [QbF, List.filter_cons, b, c]
 simp
def BS (now : Int) (x : Int × Int) : Bool := decide (x.2 ≤ now)
def pY (L : List (Int × Int)) (now : Int) : List (Int × Int) := L.filter fun x => !BS now x
def mX (L : List (Int × Int)) (now : Int) : Nat := (L.filter (BS now)).length
structure Fi (L M : List (Int × Int)) (now : Int) (k m : Nat) : Prop where
  nd : (M.map (·.1)).Nodup
  len : M.length ≤ 4
  left : pY M now = pY L now
  n : mX M now + m = mX L now
  all : m = k ∨ mX M now = 0
theorem Fi.go {L M now k m r} (h : Fi L M now k m) (u : r < M.length) (j : M[r].2 ≤ now) (v : k < 4) : Fi L (gZ M M[r].1) now (k + 1) (m + 1) := by
 have o : M = M.take r ++ M[r] :: M.drop (r + 1) := by
  simp_all
 obtain ⟨x, p⟩ : ∃ x, M[r] = x := ⟨_, rfl⟩
 obtain ⟨e, g⟩ : ∃ l, M.take r = l := ⟨_, rfl⟩
 obtain ⟨f, i⟩ : ∃ l, M.drop (r + 1) = l := ⟨_, rfl⟩
 rw [p] at j ⊢
 rw [p, g, i] at o
 have b := h.nd
 have c := h.len
 have a := h.left
 have q := h.n
 have d := h.all
 rw [o] at b c a q d ⊢
 rw [a5a b]
 have s : BS now x = true := Qai j
 have t : pY (e ++ x :: f) now = pY (e ++ f) now := by
  grind [pY]
 have w : mX (e ++ x :: f) now = mX (e ++ f) now + 1 := by
  grind [mX]
 refine ⟨?_, ?_, by rw [← t]; exact a, by omega, ?_⟩
 grind
 grind
 omega
theorem Fi.no {L M now k m} (h : Fi L M now k m) (a : ∀ x ∈ M, ¬ x.2 ≤ now) : Fi L M now (k + 1) m :=
  ⟨h.nd, h.len, h.left, h.n, .inr (by
    unfold mX
    rw [show M.filter (BS now) = [] from QcI.2 fun x b q => a x b (Qar q)]; rfl)⟩
theorem Fi.done {L M now m} (h : Fi L M now 4 m) (b : L.length ≤ 4) : M = pY L now ∧ m = mX L now := by
 have d := h.n
 have e : mX L now ≤ 4 := Qba (QaL _ _) b
 have a : mX M now = 0 := by rcases h.all with q | q <;> omega
 refine ⟨?_, by omega⟩
 rw [← h.left]
 unfold pY
 refine (QaT.2 fun x c => ?_).symm
 unfold mX at a
 have := QcI.1 (Qbd.1 a) x c
 simpa using this
theorem a5b b L (hl : L.length ≤ 4) (hnd : (L.map (·.1)).Nodup) now : sP W0 214 [pV b, iQ now] (eT b L :: R) (fun v B => ∃ a c, v = .slice a (mX L now) c ∧ B = eT b (pY L now) :: R) := by
 refine am func214 ntmps214 ?_
 refine ge (fun X : Nat × List (Int × Int) × List Value × Option Addr × Nat => X.1 ≤ 4 ∧ Fi L X.2.1 now X.1 X.2.2.1.length ∧ X.2.2.1.length ≤ X.1) (fun X => [(0, pV b), (1, iQ now), (5, .slice X.2.2.2.1 X.2.2.1.length X.2.2.2.2), (6, iQ X.1)]) (fun X => osl 3 1 (.slice X.2.2.2.1 X.2.2.1.length X.2.2.2.2) X.2.2.1 :: eT b X.2.1 :: R) (fun X => 4 - X.1) (0, L, [], none, 0) ?_ ?_ ?_ ?_
 exact ⟨QaG _, ⟨hnd, hl, rfl, rfl, .inl rfl⟩, Qam _⟩
 · repeat (first | exact bK | refine aZ rfl ?_)
 grind [Ent.trans, eT, fm]
 intro ⟨k, M, O, oa, oc⟩ ⟨hk, hF, hO⟩
 dsimp only at hk hF hO ⊢
 refine aw ?_
 refine aC rfl (fun c3 => ?_) fun c3 => ?_
 refine au 2 ?_
 refine cy (fun X : List (Int × Int) × List Value × Option Addr × Nat => k < 4 ∧ Fi L X.1 now (k + 1) X.2.1.length ∧ X.2.1.length ≤ k + 1) (fun X => [(0, pV b), (1, iQ now), (5, .slice X.2.2.1 X.2.1.length X.2.2.2), (6, iQ k)]) (fun X => osl 3 1 (.slice X.2.2.1 X.2.1.length X.2.2.2) X.2.1 :: eT b X.1 :: R) ?_ ?_
 refine au 4 ?_
 refine ah (ap call298 (a46 b M (by have := hF.len; omega))) ?_
 have hk4 : k < 4 := by omega
 have hml := hF.len
 have hok := FC M M.length
 refine BM (b := b) fun a2 c2 => ?_
 refine aw ?_
 refine bN (fun g6_3 => ?_) fun g6_3 => ?_
 obtain ⟨r, hr, hrb, hrm⟩ : ∃ r : Nat, r < M.length ∧ kd M M.length = (r : Int) ∧ ∀ j, j < M.length → (M.getD r (0, 0)).2 ≤ (M.getD j (0, 0)).2 := by
  grind
 refine BN (a := a2) (c := c2) (L := M) (by grind) fun g sp ha h2 h3 h5 => ?_
 subst ha
 obtain ⟨k1, k2⟩ := yW (sp := sp) hr
 refine aw ?_
 refine aa (jQ vd zg rfl rfl hrb hr (by first | exact Qac _ | rfl)) ?_
 refine aa (aE (aI k2)) ?_
 refine ai (fun c6 => ?_) fun c6 => ?_
 refine aa (jQ vd zg rfl rfl hrb hr (by first | exact Qac _ | rfl)) ?_
 refine aa (aE (aI k1)) ?_
 refine dw (jP eJ aS ml rfl rfl rfl rfl rfl (by decide) (by decide)) fun b1 => ?_
 refine aF rfl (eE (sz := 1) (by_ := 8) (info := Tryz.t3) eJ (by kernel_rfl) rfl rfl rfl rfl (by decide) rfl rfl en rfl rfl (by simp only [maxLen]; omega) (by omega)) ?_
 rintro _ _ ⟨a3, c3, rfl, rfl⟩
 refine aw ?_
 refine eK (B := eT b M :: osl 3 1 (.slice a3 (O.length + 1) c3) (O ++ [iQ M[r].1]) :: R) (Ent.trans (B := pt b (jg (some ⟨g, 0, none⟩) M.length c2) :: pt g (ag (M.flatMap eR ++ sp) 255) :: osl 3 1 (.slice a3 (O.length + 1) c3) (O ++ [iQ M[r].1]) :: R) inferInstance ((sg rfl h2 h3 h5).trans (rh rfl rfl))) ?_
 refine aw ?_
 refine ah (ap call299 (a48 b M (by omega) M[r].1)) ?_
 refine df (gZ M M[r].1, O ++ [iQ M[r].1], a3, c3) ?_ ?_ ?_
 exact ⟨hk4, by rw [Qae]; exact hF.go hr c6 hk4, by rw [Qae]; simp; omega⟩
 · rw [Qae]
   repeat (first | exact bK | refine aZ rfl ?_)
 show Ent _ (osl 3 1 (.slice a3 (O ++ [Value.int .i64 M[r].1]).length c3) (O ++ [iQ M[r].1]) :: eT b (gZ M M[r].1) :: R)
 rw [Qae]
 exact IO
 refine bq (M, O, oa, oc) ?_ (he := ?_)
 exact ⟨hk4, hF.no (fun x hx q => by
  obtain ⟨j, hj, rfl⟩ := Qbb.1 hx
  have h9 := hrm j hj
  simp only [List.getD, QaV hj, QaV hr, Option.getD_some] at h9
  exact c6 (by omega)), by dsimp only; omega⟩
 exact Ent.trans (B := osl 3 1 (.slice oa O.length oc) O :: pt b (jg (some ⟨g, 0, none⟩) M.length c2) :: pt g (ag (M.flatMap eR ++ sp) 255) :: R) inferInstance (Ent.cons ((sg rfl h2 h3 h5).trans (rh rfl rfl)))
 refine bq (M, O, oa, oc) ?_ (he := ?_)
 exact ⟨hk4, hF.no (fun x hx q => by
  rcases hok with ⟨h0, _⟩ | ⟨r, _, h1, _⟩
  grind
  exact g6_3 (by omega)), by dsimp only; omega⟩
 exact Ent.trans (B := osl 3 1 (.slice oa O.length oc) O :: pt b (jg a2 M.length c2) :: osl 255 2 (.slice a2 M.length c2) (M.flatMap eR) :: R) inferInstance (Ent.cons (rh rfl rfl))
 intro ⟨M2, O2, a4, c4⟩ ⟨hk4, hF2, hO2⟩
 refine aw ?_
 refine aa bW ?_
 refine bR (k + 1, M2, O2, a4, c4) ?_
 grind
 refine aw ?_
 obtain rfl : k = 4 := by omega
 obtain ⟨hM, hm⟩ := hF.done hl
 subst hM
 rw [hm]
 refine ac ?_
 exact ⟨_, ⟨oa, oc, rfl, rfl⟩, IO⟩
theorem a5c {a b : Nat} (c : a < 4294967296) (d : b < 4294967296) : decide (u32 (a + 2147483648) < u32 (b + 2147483648)) = decide (iG a < iG b) := by
 apply QaA.2
 have e : ∀ x : Nat, x < 4294967296 → iG x = if x < 2147483648 then (x : Int) else (x : Int) - 4294967296 := fun x f => by
  simp only [iG, IntKind.wrap, IntKind.bits, IntKind.signed]
  simp
  omega
 rw [e a c, e b d]
 unfold u32
 split <;> split <;> omega
theorem FF {a n : Nat} (h : ¬ (2147483648 ≤ a ∧ 0 < n)) (b : a < 4294967296) (f : n < 32) : u32 (jN .i32 (iG a) n) = a / 2 ^ n := by
 have e : iG a = if a < 2147483648 then (a : Int) else (a : Int) - 4294967296 := by
  simp only [iG, IntKind.wrap, IntKind.bits, IntKind.signed]
  simp
  omega
 by_cases c : n = 0
 subst c
 rw [Nat.pow_zero, Nat.div_one]
 have : jN .i32 (iG a) ((0 : Nat) : Int) = iG a := by
  unfold jN
  simp
 rw [this, e]
 unfold u32
 split <;> omega
 have d : a < 2147483648 := by omega
 rw [e, Qad d, jU (k := .i32) (s := n) (by show n ≤ 32; omega), vX]
 exact QaI (QbQ _ _) b
theorem a5d {a n : Nat} (h : 2147483648 ≤ a) (f : 0 < n) (i : a < 4294967296) (j : n < 32) : u32 (jN .i32 (iG a) n) = (a / 2 ^ n) ||| (4294967296 - 2 ^ (32 - n)) := by
 have e : iG a = (a : Int) - 4294967296 := by
  simp only [iG, IntKind.wrap, IntKind.bits, IntKind.signed]
  simp
  omega
 have k : ∀ n, n < 32 → 0 < n → ∃ q, 2 ^ n * 2 ^ (32 - n) = 4294967296 ∧ 0 < 2 ^ n ∧ 0 < 2 ^ (32 - n) ∧ q = 2 ^ n := fun n h f => ⟨2 ^ n, by rw [← Nat.pow_add, show n + (32 - n) = 32 by omega], Qcq _, Qcq _, rfl⟩
 obtain ⟨_, b, c, l, _⟩ := k n j f
 have m : a / 2 ^ n < 2 ^ (32 - n) := by
  rw [Nat.div_lt_iff_lt_mul c, QcD, b]; exact i
 have g : 4294967296 - 2 ^ (32 - n) = 2 ^ (32 - n) * (2 ^ n - 1) := by
  rw [Nat.mul_sub, Qaz, QcD, b]
 have d : (a / 2 ^ n) ||| (4294967296 - 2 ^ (32 - n)) = 2 ^ (32 - n) * (2 ^ n - 1) + a / 2 ^ n := by
  rw [g, QcX, Qbj m]
 rw [d, ← g, e]
 have o : jN .i32 ((a : Int) - 4294967296) (n : Int) = ((a / 2 ^ n : Nat) : Int) - ((2 ^ (32 - n) : Nat) : Int) := by
  unfold jN
  rw [Qaf, Qbm (show n ≤ IntKind.bits .i32 by show n ≤ 32; omega)]
  rw [show ((2 : Int) ^ n) = ((2 ^ n : Nat) : Int) by push_cast; rfl, Int.fdiv_eq_ediv_of_nonneg _ (Int.natCast_nonneg _)]
  rw [show (a : Int) - 4294967296 = (a : Int) + ((2 ^ n : Nat) : Int) * (-((2 ^ (32 - n) : Nat) : Int)) by
   rw [Int.mul_neg, ← Int.natCast_mul, b]; rfl]
  rw [Int.add_mul_ediv_left _ _ (by omega)]
  rw [← Int.natCast_ediv]; rfl
 rw [o]
 have p : 2 ^ (32 - n) ≤ 2147483648 := by
  have : 2 ^ (32 - n) ≤ 2 ^ 31 := Qct (by decide) (by omega)
  exact this
 unfold u32
 omega
theorem a5e {n} (a : 0 < n) (b : n < 32) : ip .u32 4294967295 (32 - n : Nat) = (4294967296 - 2 ^ (32 - n) : Nat) := by
 have : ∀ m, m < 32 → 0 < m → ip .u32 4294967295 ((32 - m : Nat) : Int) = ((4294967296 - 2 ^ (32 - m) : Nat) : Int) := by decide +kernel
 exact this n b a
theorem a5f : ∀ a, a < 42 → 1 ≤ a → a ≤ 13 → fX a = 7 := by decide +kernel
theorem Mz : ∀ a, a < 42 → ((14 ≤ a ∧ a ≤ 21) ∨ (23 ≤ a ∧ a ≤ 25) ∨ a = 33) → fX a = 11 := by decide +kernel
theorem MA : ∀ a, a < 42 → (a = 22 ∨ a = 32 ∨ a = 37) → fX a = 9 := by decide +kernel
theorem a5g : ∀ a, a < 42 → (a = 26 ∨ a = 27 ∨ (28 ≤ a ∧ a ≤ 31)) → fX a = 14 := by decide +kernel
theorem MB : ∀ a, a < 42 → a = 38 → fX a = 10 := by decide +kernel
theorem a5h : ∀ a, a < 42 → (a = 0 ∨ a = 34 ∨ a = 35 ∨ a = 36 ∨ a = 39 ∨ a = 40 ∨ a = 41) → fX a = 0 := by decide +kernel
theorem a5i {i} (h : gG i = true) : my i = u32 ((i.op + i.d * 64 + i.a * 1024 + i.b * 16384 : Nat) + (u32 (ip .u32 (u32 i.im) 18))) := by
 obtain ⟨v, m, n, o, w⟩ := rQ h
 have p : ∀ x : Nat, x < 4294967296 → ip .u32 ((x : Nat) : Int) 18 = ((x % 16384 * 262144 : Nat) : Int) := fun x e => by
  unfold ip
  rw [show min (18 : Int).toNat (IntKind.bits .u32) = 18 by decide, d8]
  unfold u32
  omega
 have c : ∀ (x k : Nat), x < 16 → k ≤ 14 → ip .u32 ((x : Nat) : Int) ((k : Nat) : Int) = ((x * 2 ^ k : Nat) : Int) := by
  have : ∀ x, x < 16 → ∀ k, k ≤ 14 → ip .u32 ((x : Nat) : Int) ((k : Nat) : Int) = ((x * 2 ^ k : Nat) : Int) := by decide +kernel
  exact fun x k a b => this x a k b
 have f := c i.d 6 m (by decide)
 have g := c i.a 10 n (by decide)
 have j := c i.b 14 o (by decide)
 unfold my
 have e := dJ i.im
 rw [p _ e]
 rw [show ((6 : Nat) : Int) = 6 from rfl] at f
 rw [show ((10 : Nat) : Int) = 10 from rfl] at g
 rw [show ((14 : Nat) : Int) = 14 from rfl] at j
 rw [f, g, j]
 have q : i.op < 2 ^ 6 := by omega
 rw [mt (a := i.op) (b := i.d * 2 ^ 6) (by omega) (by omega)]
 rw [show i.op ||| i.d * 2 ^ 6 = 2 ^ 6 * i.d + i.op by rw [QcX, QcD, Qbj q]]
 have r : 2 ^ 6 * i.d + i.op < 2 ^ 10 := by omega
 rw [mt (b := i.a * 2 ^ 10) (by omega) (by omega)]
 rw [show (2 ^ 6 * i.d + i.op) ||| i.a * 2 ^ 10 = 2 ^ 10 * i.a + (2 ^ 6 * i.d + i.op) by rw [QcX, QcD i.a, Qbj r]]
 have s : 2 ^ 10 * i.a + (2 ^ 6 * i.d + i.op) < 2 ^ 14 := by omega
 rw [mt (b := i.b * 2 ^ 14) (by omega) (by omega)]
 rw [show (2 ^ 10 * i.a + (2 ^ 6 * i.d + i.op)) ||| i.b * 2 ^ 14 = 2 ^ 14 * i.b + (2 ^ 10 * i.a + (2 ^ 6 * i.d + i.op)) by rw [QcX, QcD i.b, Qbj s]]
 obtain ⟨y, l⟩ : ∃ y, u32 i.im % 16384 = y := ⟨_, rfl⟩
 have t : y < 16384 := by rw [← l]; exact Qcd _ (by decide)
 rw [l]
 have u : 2 ^ 14 * i.b + (2 ^ 10 * i.a + (2 ^ 6 * i.d + i.op)) < 2 ^ 18 := by omega
 rw [show y * 262144 = y * 2 ^ 18 from rfl, mt (b := y * 2 ^ 18) (by omega) (by omega)]
 rw [show (2 ^ 14 * i.b + (2 ^ 10 * i.a + (2 ^ 6 * i.d + i.op))) ||| y * 2 ^ 18 = 2 ^ 18 * y + (2 ^ 14 * i.b + (2 ^ 10 * i.a + (2 ^ 6 * i.d + i.op))) by rw [QcX, QcD y, Qbj u]]
 rw [vX (by omega), vX (by omega)]
 unfold u32
 omega
section
variable (W0 : World) (R : List HP) (a b : Nat)
theorem a5j im : sQ W0 310 [iQ im] R (wV (uv im)) R := by
 refine am func310 ntmps310 ?_
 refine aa (bG (d8 im)) ?_
 refine aa (l9 rfl rfl (by decide) (yA _ _)) ?_
 exact ac ao
theorem a5k (a : Nat) (h : a < 42) : sQ W0 311 [iQ a] R (.tuple #[iQ (if 14 ≤ a ∧ a ≤ 21 then i5 a else 0 : Nat), .bool (decide (14 ≤ a ∧ a ≤ 21))]) R := by
 refine am func311 ntmps311 ?_
 refine ai (fun f => ?_) fun f => ?_
 refine ax ?_
 obtain rfl : a = 14 := by omega
 exact ao
 refine ai (fun g => ?_) fun g => ?_
 refine ax ?_
 obtain rfl : a = 15 := by omega
 exact ao
 refine ai (fun i => ?_) fun i => ?_
 refine ax ?_
 obtain rfl : a = 16 := by omega
 exact ao
 refine ai (fun j => ?_) fun j => ?_
 refine ax ?_
 obtain rfl : a = 17 := by omega
 exact ao
 refine ai (fun b => ?_) fun b => ?_
 refine ax ?_
 obtain rfl : a = 18 := by omega
 exact ao
 refine ai (fun c => ?_) fun c => ?_
 refine ax ?_
 obtain rfl : a = 19 := by omega
 exact ao
 refine ai (fun d => ?_) fun d => ?_
 refine ax ?_
 obtain rfl : a = 20 := by omega
 exact ao
 refine ai (fun e => ?_) fun e => ?_
 refine ax ?_
 obtain rfl : a = 21 := by omega
 exact ao
 refine ax ?_
 rw [Qaa (by omega), Qal (by omega)]
 exact ao
theorem MC p : sQ W0 355 [.bool p] R (wV (oS p)) R := by
 refine am func355 ntmps355 ?_
 refine ai (fun a => ?_) fun a => ?_
 rw [show oS p = 1 by rw [a]; rfl]
 exact ac ao
 rw [show oS p = 0 by rw [show p = false by simpa using a]; rfl]
 exact ac ao
theorem MD (c : a < 4294967296) (d : b < 4294967296) : sQ W0 356 [wV a, wV b] R (.bool (decide (iG a < iG b))) R := by
 rw [← a5c c d, ← yB]
 refine am func356 ntmps356 ?_
 refine aa (dh rfl rfl (d8 _)) ?_
 refine aa (dh rfl rfl (d8 _)) ?_
 exact ac ao
theorem a5l n (hn : n < 32) (ha : a < 4294967296) : sQ W0 354 [wV a, wV n] R (wV (u32 (jN .i32 (iG a) n))) R := by
 have hd : a / 2 ^ n < 4294967296 := QaI (QbQ _ _) ha
 refine am func354 ntmps354 ?_
 refine ae rfl (j5 rfl rfl (by omega) (jU (k := .u32) (s := n) (by show n ≤ 32; omega))) ?_
 refine ae rfl (bC rfl) (aL (aH (aO (aO (aY (ae rfl (aM rfl) (ae rfl (vl rfl rfl) (ae rfl (aM rfl) ?_))))))))
 refine iT rfl rfl rfl (fun g2_3 => ?_) fun g2_3 => ?_
 refine ae rfl (aM rfl) ?_
 refine cM rfl rfl (ae rfl (u6 rfl rfl) (ae rfl (lR rfl rfl) (aL (aH ?_))))
 refine aC rfl (fun c2 => ?_) fun c2 => ?_
 have h1 : 2147483648 ≤ a := by omega
 have h2 : 0 < n := by omega
 rw [a5d h1 h2 ha hn]
 have hf := a5e h2 hn
 refine aw ?_
 refine aa (nV (32 - n)) ?_
 refine aa (l9 rfl rfl (by omega) hf) ?_
 refine aa (mo rfl rfl (mt hd (Nat.sub_lt (by decide) (Qcq _)))) ?_
 refine ac ?_
 first | exact ⟨_, ⟨rfl, rfl⟩, inferInstance⟩ | (rw [FF (by omega) ha hn]; exact ⟨_, ⟨rfl, rfl⟩, inferInstance⟩)
 refine aw ?_
 refine ac ?_
 first | exact ⟨_, ⟨rfl, rfl⟩, inferInstance⟩ | (rw [FF (by omega) ha hn]; exact ⟨_, ⟨rfl, rfl⟩, inferInstance⟩)
 refine aw ?_
 refine ac ?_
 first | exact ⟨_, ⟨rfl, rfl⟩, inferInstance⟩ | (rw [FF (by omega) ha hn]; exact ⟨_, ⟨rfl, rfl⟩, inferInstance⟩)
theorem ME (c : Nat) (h : c < 42) (e : a < 4294967296) (f : b < 4294967296) : sQ W0 312 [iQ c, wV a, wV b] R (.tuple #[wV (if 1 ≤ c ∧ c ≤ 13 then kC c a b else 0), iQ (if 1 ≤ c ∧ c ≤ 13 then 0 else 1)]) R := by
 refine am func312 ntmps312 ?_
 refine ai (fun v => ?_) fun v => ?_
 refine aa (dh rfl rfl (d8 _)) ?_
 refine ax ?_
 obtain rfl : c = 1 := by omega
 exact ao
 refine ai (fun w => ?_) fun w => ?_
 refine aa (l8 rfl rfl (d8 _)) ?_
 refine ax ?_
 obtain rfl : c = 2 := by omega
 exact ao
 refine ai (fun x => ?_) fun x => ?_
 refine aa (eC rfl rfl (lh e f)) ?_
 refine ax ?_
 obtain rfl : c = 3 := by omega
 exact ao
 refine ai (fun y => ?_) fun y => ?_
 refine aa (mo rfl rfl (mt e f)) ?_
 refine ax ?_
 obtain rfl : c = 4 := by omega
 exact ao
 refine ai (fun g => ?_) fun g => ?_
 refine aa (H1 rfl rfl (Lc a b)) ?_
 refine ax ?_
 obtain rfl : c = 5 := by omega
 exact ao
 refine ai (fun i => ?_) fun i => ?_
 refine aa (dV rfl rfl (by decide) (iE b 32)) ?_
 refine aa (l9 rfl rfl (by omega) (yA _ _)) ?_
 refine ax ?_
 obtain rfl : c = 6 := by omega
 exact ao
 refine ai (fun j => ?_) fun j => ?_
 refine aa (dV rfl rfl (by decide) (iE b 32)) ?_
 refine aa (j5 rfl rfl (by omega) (jU (k := .u32) (s := b % 32) (by have := Qcd b (show 0 < 32 by decide); show b % 32 ≤ 32; omega))) ?_
 refine ax ?_
 obtain rfl : c = 7 := by omega
 exact ao
 refine ai (fun l => ?_) fun l => ?_
 refine aa (dV rfl rfl (by decide) (iE b 32)) ?_
 refine ah (aB call354 (a5l W0 _ a (b % 32) (Qcd _ (by decide)) e)) ?_
 refine ax ?_
 obtain rfl : c = 8 := by omega
 exact ao
 refine ai (fun m => ?_) fun m => ?_
 refine ah (aB call356 (MD W0 _ a b e f)) ?_
 refine ah (aB call355 (MC W0 _ _)) ?_
 refine ax ?_
 obtain rfl : c = 9 := by omega
 exact ao
 refine aC rfl (fun n => ?_) fun n => ?_
 refine aO ?_
 refine aY (ae rfl (aM rfl) (ae rfl (aM rfl) (ae rfl (nh rfl rfl) (aF rfl (iz call355 rfl (MC W0 _ _)) ?_))))
 rintro _ A ⟨rfl, o⟩
 obtain rfl := o.symm
 rw [yB]
 refine aw ?_
 refine ax ?_
 obtain rfl : c = 10 := by omega
 exact ao
 refine aw ?_
 refine ai (fun p => ?_) fun p => ?_
 refine aa (qg rfl rfl (d8 _)) ?_
 refine ax ?_
 obtain rfl : c = 11 := by omega
 exact ao
 refine aC rfl (fun q => ?_) fun q => ?_
 refine aO ?_
 refine aO (aY (ae rfl (aM rfl) (ae rfl (iq rfl rfl) (aL (aH ?_)))))
 refine aC rfl (fun r => ?_) fun r => ?_
 refine au 10 ?_
 refine ax ?_
 obtain rfl : c = 12 := by omega
 obtain rfl : b = 0 := by omega
 exact ao
 refine aw ?_
 obtain rfl : c = 12 := by omega
 have d : b ≠ 0 := by omega
 have z : a / b < 4294967296 := QaI (QbQ _ _) e
 rw [Qad (show 1 ≤ 12 ∧ 12 ≤ 13 by decide), Qad (show 1 ≤ 12 ∧ 12 ≤ 13 by decide), show kC 12 a b = a / b from Qaa d]
 refine aa (ng rfl rfl (by omega) (by rw [qq]; exact cZ ⟨Int.natCast_nonneg _, Int.ofNat_lt.2 z⟩ : IntKind.wrap .u32 (Int.tdiv (a : Int) (b : Int)) = ((a / b : Nat) : Int))) ?_
 exact ax ao
 refine aw ?_
 refine aC rfl (fun t => ?_) fun t => ?_
 refine aO ?_
 refine aO (aY (ae rfl (aM rfl) (ae rfl (iq rfl rfl) (aL (aH ?_)))))
 refine aC rfl (fun u => ?_) fun u => ?_
 refine au 11 ?_
 refine ax ?_
 obtain rfl : c = 13 := by omega
 obtain rfl : b = 0 := by omega
 exact ao
 refine aw ?_
 obtain rfl : c = 13 := by omega
 have d : b ≠ 0 := by omega
 rw [Qad (show 1 ≤ 13 ∧ 13 ≤ 13 by decide), Qad (show 1 ≤ 13 ∧ 13 ≤ 13 by decide), show kC 13 a b = a % b from Qaa d]
 refine aa (dV rfl rfl (by omega) (iE a b)) ?_
 exact ax ao
 refine aw ?_
 refine ax ?_
 rw [Qaa (by omega), Qaa (by omega)]
 exact ao
theorem a5m (c : Nat) (h : 28 ≤ c ∧ c ≤ 31) (d : a < 4294967296) (e : b < 4294967296) : sQ W0 313 [iQ c, wV a, wV b] R (.tuple #[.bool (uu c a b), iQ 0]) R := by
 refine am func313 ntmps313 ?_
 refine aC rfl (fun f => ?_) fun f => ?_
 refine aO ?_
 refine aY (ae rfl (aM rfl) (ae rfl (aM rfl) (ae rfl (iq rfl rfl) (ae rfl (bC rfl) (ae rfl (bC rfl) (aL (aH (dE (mn (iP (bU (.inl rfl) (.cons (aR rfl) (.cons (aR rfl) .nil)) ?_)))))))))))
 obtain rfl : c = 28 := by omega
 exact ⟨_, ⟨by rw [F6]; rfl, rfl⟩, IO⟩
 refine aw ?_
 refine aC rfl (fun g => ?_) fun g => ?_
 refine aO ?_
 refine aY (ae rfl (aM rfl) (ae rfl (aM rfl) (ae rfl (oJ rfl rfl) (ae rfl (bC rfl) (ae rfl (bC rfl) (aL (aH (dE (mn (iP (bU (.inl rfl) (.cons (aR rfl) (.cons (aR rfl) .nil)) ?_)))))))))))
 obtain rfl : c = 29 := by omega
 exact ⟨_, ⟨by rw [Lk]; rfl, rfl⟩, IO⟩
 refine aw ?_
 refine ai (fun i => ?_) fun i => ?_
 refine ah (aB call356 (MD W0 _ a b d e)) ?_
 refine ax ?_
 obtain rfl : c = 30 := by omega
 exact ao
 refine aC rfl (fun j => ?_) fun j => ?_
 refine aO ?_
 refine aY (ae rfl (aM rfl) (ae rfl (aM rfl) (ae rfl (nh rfl rfl) (ae rfl (bC rfl) (ae rfl (bC rfl) (aL (aH (dE (mn (iP (bU (.inl rfl) (.cons (aR rfl) (.cons (aR rfl) .nil)) ?_)))))))))))
 obtain rfl : c = 31 := by omega
 exact ⟨_, ⟨by rw [yB]; rfl, rfl⟩, IO⟩
 omega
end
theorem MF {p} [Decidable p] {a b : Int} (h : p ↔ a = b) : decide p = (a == b) := by
 rw [Qag, QaZ, Qaj]; exact h
theorem mh {p} [Decidable p] {z} (h : decide p = z) (q : p) : some (Value.bool true) = some (.bool z) := by
 rw [← h, Qai q]
theorem oC {p} [Decidable p] {z} (h : decide p = z) (q : ¬ p) : some (Value.bool false) = some (.bool z) := by
 rw [← h, Qal q]
theorem wK {p r} [Decidable p] [Decidable r] {z} (h : decide p = z) (q : p ↔ r) : some (Value.bool (decide r)) = some (.bool z) := by
 rw [← h, QaA.2 q]
theorem pw {p} [Decidable p] {z} {a b : Int} (h : decide p = z) (q : p ↔ a = b) : some (Value.bool (a == b)) = some (.bool z) := by
 rw [← h, MF q]
theorem a5n (a : Nat) (h : a < 42) : sQ W0 306 [iQ a] R (.tuple #[.bool (fX a % 2 != 0), .bool (fX a / 2 % 2 != 0), .bool (fX a / 4 % 2 != 0), .bool (fX a / 8 % 2 != 0)]) R := by
 obtain ⟨v, e⟩ : ∃ z, decide (1 ≤ a ∧ a ≤ 13) = z := ⟨_, rfl⟩
 obtain ⟨w, b⟩ : ∃ z, decide ((14 ≤ a ∧ a ≤ 21) ∨ (23 ≤ a ∧ a ≤ 25) ∨ a = 33) = z := ⟨_, rfl⟩
 obtain ⟨x, d⟩ : ∃ z, decide (a = 22 ∨ a = 32 ∨ a = 37) = z := ⟨_, rfl⟩
 obtain ⟨y, c⟩ : ∃ z, decide (a = 26 ∨ a = 27 ∨ (28 ≤ a ∧ a ≤ 31)) = z := ⟨_, rfl⟩
 refine jz 10 func306 ntmps306 ?_
 refine cy (fun _ : Unit => True) (fun _ => [(0, iQ a), (6, .bool v)]) (fun _ => R) ?_ ?_
 refine au 4 ?_
 refine bN (fun j => ?_) fun j => ?_
 refine df () ?_ ?_ ?_
 trivial
 exact aZ rfl (aZ (by first | exact wK e (by omega) | exact oC e (by omega)) bK)
 exact IO
 refine df () ?_ ?_ ?_
 trivial
 exact aZ rfl (aZ (by first | exact wK e (by omega) | exact oC e (by omega)) bK)
 exact IO
 intro _ _
 refine aC rfl (fun r => ?_) fun r => ?_
 refine au 11 ?_
 refine aV (.cons (aR rfl) (.cons (aR rfl) (.cons (aR rfl) (.cons (aR rfl) .nil)))) ?_
 have q := Qar (e.trans r)
 rw [a5f a h (by omega) (by omega)]
 exact ao
 refine cy (fun _ : Unit => True) (fun _ => [(0, iQ a), (13, .bool w)]) (fun _ => R) ?_ ?_
 have A : ¬ (1 ≤ a ∧ a ≤ 13) := fun q => r (by rw [← e]; exact Qai q)
 refine aw ?_
 refine bN (fun k => ?_) fun k => ?_
 refine cn (fun l => ?_) fun l => ?_
 refine df () ?_ ?_ ?_
 trivial
 exact aZ rfl (aZ (by first | exact mh b (by omega) | exact pw b (by omega) | exact oC b (by omega)) bK)
 exact IO
 refine bN (fun f => ?_) fun f => ?_
 refine cn (fun g => ?_) fun g => ?_
 refine df () ?_ ?_ ?_
 trivial
 exact aZ rfl (aZ (by first | exact mh b (by omega) | exact pw b (by omega) | exact oC b (by omega)) bK)
 exact IO
 refine df () ?_ ?_ ?_
 trivial
 exact aZ rfl (aZ (by first | exact mh b (by omega) | exact pw b (by omega) | exact oC b (by omega)) bK)
 exact IO
 refine df () ?_ ?_ ?_
 trivial
 exact aZ rfl (aZ (by first | exact mh b (by omega) | exact pw b (by omega) | exact oC b (by omega)) bK)
 exact IO
 refine bN (fun f => ?_) fun f => ?_
 refine cn (fun g => ?_) fun g => ?_
 refine df () ?_ ?_ ?_
 trivial
 exact aZ rfl (aZ (by first | exact mh b (by omega) | exact pw b (by omega) | exact oC b (by omega)) bK)
 exact IO
 refine df () ?_ ?_ ?_
 trivial
 exact aZ rfl (aZ (by first | exact mh b (by omega) | exact pw b (by omega) | exact oC b (by omega)) bK)
 exact IO
 refine df () ?_ ?_ ?_
 trivial
 exact aZ rfl (aZ (by first | exact mh b (by omega) | exact pw b (by omega) | exact oC b (by omega)) bK)
 exact IO
 intro _ _
 refine aC rfl (fun s => ?_) fun s => ?_
 refine au 11 ?_
 refine aV (.cons (aR rfl) (.cons (aR rfl) (.cons (aR rfl) (.cons (aR rfl) .nil)))) ?_
 have q := Qar (b.trans s)
 rw [Mz a h q]
 exact ao
 refine cy (fun _ : Unit => True) (fun _ => [(0, iQ a), (32, .bool x)]) (fun _ => R) ?_ ?_
 have B : ¬ ((14 ≤ a ∧ a ≤ 21) ∨ (23 ≤ a ∧ a ≤ 25) ∨ a = 33) := fun q => s (by rw [← b]; exact Qai q)
 refine aw ?_
 refine cn (fun m => ?_) fun m => ?_
 refine df () ?_ ?_ ?_
 trivial
 exact aZ rfl (aZ (by first | exact mh d (by omega) | exact pw d (by omega)) bK)
 exact IO
 refine cn (fun n => ?_) fun n => ?_
 refine df () ?_ ?_ ?_
 trivial
 exact aZ rfl (aZ (by first | exact mh d (by omega) | exact pw d (by omega)) bK)
 exact IO
 refine df () ?_ ?_ ?_
 trivial
 exact aZ rfl (aZ (by first | exact mh d (by omega) | exact pw d (by omega)) bK)
 exact IO
 intro _ _
 refine aC rfl (fun t => ?_) fun t => ?_
 refine au 11 ?_
 refine aV (.cons (aR rfl) (.cons (aR rfl) (.cons (aR rfl) (.cons (aR rfl) .nil)))) ?_
 have q := Qar (d.trans t)
 rw [MA a h q]
 exact ao
 refine cy (fun _ : Unit => True) (fun _ => [(0, iQ a), (43, .bool y)]) (fun _ => R) ?_ ?_
 have C : ¬ (a = 22 ∨ a = 32 ∨ a = 37) := fun q => t (by rw [← d]; exact Qai q)
 refine aw ?_
 refine cn (fun o => ?_) fun o => ?_
 refine df () ?_ ?_ ?_
 trivial
 exact aZ rfl (aZ (by first | exact mh c (by omega) | exact wK c (by omega) | exact oC c (by omega)) bK)
 exact IO
 refine cn (fun p => ?_) fun p => ?_
 refine df () ?_ ?_ ?_
 trivial
 exact aZ rfl (aZ (by first | exact mh c (by omega) | exact wK c (by omega) | exact oC c (by omega)) bK)
 exact IO
 refine bN (fun i => ?_) fun i => ?_
 refine df () ?_ ?_ ?_
 trivial
 exact aZ rfl (aZ (by first | exact mh c (by omega) | exact wK c (by omega) | exact oC c (by omega)) bK)
 exact IO
 refine df () ?_ ?_ ?_
 trivial
 exact aZ rfl (aZ (by first | exact mh c (by omega) | exact wK c (by omega) | exact oC c (by omega)) bK)
 exact IO
 intro _ _
 refine ai (fun u => ?_) fun u => ?_
 refine aV (.cons (aR rfl) (.cons (aR rfl) (.cons (aR rfl) (.cons (aR rfl) .nil)))) ?_
 have q := Qar (c.trans u)
 rw [a5g a h q]
 exact ao
 have D : ¬ (a = 26 ∨ a = 27 ∨ (28 ≤ a ∧ a ≤ 31)) := fun q => u (by rw [← c]; exact Qai q)
 refine ai (fun E => ?_) fun E => ?_
 refine aV (.cons (aR rfl) (.cons (aR rfl) (.cons (aR rfl) (.cons (aR rfl) .nil)))) ?_
 rw [MB a h (by omega)]
 exact ao
 refine aV (.cons (aR rfl) (.cons (aR rfl) (.cons (aR rfl) (.cons (aR rfl) .nil)))) ?_
 have A : ¬ (1 ≤ a ∧ a ≤ 13) := fun q => r (by rw [← e]; exact Qai q)
 have B : ¬ ((14 ≤ a ∧ a ≤ 21) ∨ (23 ≤ a ∧ a ≤ 25) ∨ a = 33) := fun q => s (by rw [← b]; exact Qai q)
 have C : ¬ (a = 22 ∨ a = 32 ∨ a = 37) := fun q => t (by rw [← d]; exact Qai q)
 have D : ¬ (a = 26 ∨ a = 27 ∨ (28 ≤ a ∧ a ≤ 31)) := fun q => u (by rw [← c]; exact Qai q)
 rw [a5h a h (by omega)]
 exact ao
theorem FG may (n : Nat) : sQ W0 307 [.bool may, iQ n] R (.bool (gU may n)) R := by
 cases may with
 | false =>
  refine am func307 ntmps307 ?_
  refine dk rfl rfl rfl ?_ ?_
  intro c
  refine aw ?_
  refine ac ?_
  first | (rw [show gU false n = true from Qai (by omega)]; exact ⟨_, ⟨rfl, rfl⟩, inferInstance⟩) | (rw [show gU false n = false from Qal (by omega)]; exact ⟨_, ⟨rfl, rfl⟩, inferInstance⟩) | exact absurd g1_4 (by decide) | exact absurd g1_8 (by decide) | exact absurd a (by decide) | exact absurd b (by decide)
  intro c
  refine au 3 ?_
  refine iT rfl rfl rfl ?_ ?_
  intro a
  refine aw ?_
  refine bN (fun b => ?_) fun b => ?_
  refine ac ?_
  first | (rw [show gU false n = true from Qai (by omega)]; exact ⟨_, ⟨rfl, rfl⟩, inferInstance⟩) | (rw [show gU false n = false from Qal (by omega)]; exact ⟨_, ⟨rfl, rfl⟩, inferInstance⟩) | exact absurd g1_4 (by decide) | exact absurd g1_8 (by decide) | exact absurd a (by decide) | exact absurd b (by decide)
  refine ac ?_
  first | (rw [show gU false n = true from Qai (by omega)]; exact ⟨_, ⟨rfl, rfl⟩, inferInstance⟩) | (rw [show gU false n = false from Qal (by omega)]; exact ⟨_, ⟨rfl, rfl⟩, inferInstance⟩) | exact absurd g1_4 (by decide) | exact absurd g1_8 (by decide) | exact absurd a (by decide) | exact absurd b (by decide)
  intro a
  refine aw ?_
  refine ac ?_
  first | (rw [show gU false n = true from Qai (by omega)]; exact ⟨_, ⟨rfl, rfl⟩, inferInstance⟩) | (rw [show gU false n = false from Qal (by omega)]; exact ⟨_, ⟨rfl, rfl⟩, inferInstance⟩) | exact absurd g1_4 (by decide) | exact absurd g1_8 (by decide) | exact absurd a (by decide) | exact absurd b (by decide)
 | true =>
  refine am func307 ntmps307 ?_
  refine dk rfl rfl rfl (fun c => ?_) fun c => ?_
  refine au 13 ?_
  refine ac ?_
  first | (rw [show gU true n = true from Qai (by omega)]; exact ⟨_, ⟨rfl, rfl⟩, inferInstance⟩) | (rw [show gU true n = decide ((n : Int) < 16) from QaA.2 (by omega)]; exact ⟨_, ⟨rfl, rfl⟩, inferInstance⟩) | exact absurd (by decide) g1_4 | exact absurd (by omega) g1_8 | exact absurd (by decide) a | exact absurd (by omega) b
  refine au 3 ?_
  refine iT rfl rfl rfl (fun a => ?_) fun a => ?_
  refine ae rfl (aM rfl) ?_
  refine cM rfl rfl (ae rfl (u6 rfl rfl) (cM rfl rfl (ae rfl (lR rfl rfl) (cM rfl rfl (ae rfl (aM rfl) ?_)))))
  refine iT rfl rfl rfl (fun b => ?_) fun b => ?_
  refine au 10 ?_
  refine ac ?_
  first | (rw [show gU true n = true from Qai (by omega)]; exact ⟨_, ⟨rfl, rfl⟩, inferInstance⟩) | (rw [show gU true n = decide ((n : Int) < 16) from QaA.2 (by omega)]; exact ⟨_, ⟨rfl, rfl⟩, inferInstance⟩) | exact absurd (by decide) g1_4 | exact absurd (by omega) g1_8 | exact absurd (by decide) a | exact absurd (by omega) b
  refine aw ?_
  refine ac ?_
  first | (rw [show gU true n = true from Qai (by omega)]; exact ⟨_, ⟨rfl, rfl⟩, inferInstance⟩) | (rw [show gU true n = decide ((n : Int) < 16) from QaA.2 (by omega)]; exact ⟨_, ⟨rfl, rfl⟩, inferInstance⟩) | exact absurd (by decide) g1_4 | exact absurd (by omega) g1_8 | exact absurd (by decide) a | exact absurd (by omega) b
  refine aw ?_
  refine ac ?_
  first | (rw [show gU true n = true from Qai (by omega)]; exact ⟨_, ⟨rfl, rfl⟩, inferInstance⟩) | (rw [show gU true n = decide ((n : Int) < 16) from QaA.2 (by omega)]; exact ⟨_, ⟨rfl, rfl⟩, inferInstance⟩) | exact absurd (by decide) g1_4 | exact absurd (by omega) g1_8 | exact absurd (by decide) a | exact absurd (by omega) b
theorem MG {op n} (a : ¬ (op = 18 ∨ op = 19 ∨ op = 20)) (b : ¬ (op = 37 ∨ op = 38)) (h : fX op / 8 % 2 = 0 → n = 0) : dx op n = decide (-8192 ≤ n ∧ n ≤ 8191) := by
 rw [dx, Qaa a, Qaa b]
 split
 rename_i q
 have := h q
 apply QaA.2; omega
 rfl
theorem FH i : sQ W0 222 [.agg (fH i).toArray] R (.bool (gG i)) R := by
 obtain ⟨H, I⟩ : ∃ p, (fX i.op % 2 != 0) = p := ⟨_, rfl⟩
 obtain ⟨J, K⟩ : ∃ p, (fX i.op / 2 % 2 != 0) = p := ⟨_, rfl⟩
 obtain ⟨L, M⟩ : ∃ p, (fX i.op / 4 % 2 != 0) = p := ⟨_, rfl⟩
 obtain ⟨A, B⟩ : ∃ p, (fX i.op / 8 % 2 != 0) = p := ⟨_, rfl⟩
 obtain ⟨t, N⟩ : ∃ p, gU H i.d = p := ⟨_, rfl⟩
 obtain ⟨C, O⟩ : ∃ p, gU J i.a = p := ⟨_, rfl⟩
 obtain ⟨E, P⟩ : ∃ p, gU L i.b = p := ⟨_, rfl⟩
 have Q : A = true → fX i.op / 8 % 2 ≠ 0 := fun q => by rw [q] at B; exact QbN.1 B
 have u : gG i = (o9 i.op && t && C && E && dx i.op i.im) := by
  unfold gG; rw [I, K, M, N, O, P]
 rw [u]
 refine am func222 ntmps222 ?_
 refine bB fun s => ?_
 refine cn (fun v => ?_) fun v => ?_
 refine ac ?_
 rw [show o9 i.op = false from Qal (by omega)]
 exact ao
 refine ai (fun U => ?_) fun U => ?_
 refine ac ?_
 rw [show o9 i.op = false from Qal (by omega)]
 exact ao
 have D : 1 ≤ i.op ∧ i.op ≤ 41 := by omega
 rw [show o9 i.op = true from Qai D]
 refine kv (aB call306 (a5n i.op (by omega))) ?_
 rw [I, K, M, B]
 refine au 11 ?_
 refine cy (fun _ : Unit => (t = true ∧ C = true ∧ E = true) ∧ (fX i.op / 8 % 2 = 0 → i.im = 0) ∧ 1 ≤ i.op ∧ i.op ≤ 41) (fun _ => [(1, pV s)]) (fun _ => pt s (ag (fH i) 263) :: R) ?_ ?_
 refine au 5 ?_
 refine ah (aB Oi (FG H i.d)) ?_
 rw [N]
 refine cn (fun g => ?_) fun g => ?_
 refine ac ?_
 rw [show t = false by simpa using g]
 exact ao
 refine ah (aB Oi (FG J i.a)) ?_
 rw [O]
 refine cn (fun f => ?_) fun f => ?_
 refine ac ?_
 rw [show t = true by simpa using g, show C = false by simpa using f]
 exact ao
 refine ah (aB Oi (FG L i.b)) ?_
 rw [P]
 refine cn (fun j => ?_) fun j => ?_
 refine ac ?_
 rw [show t = true by simpa using g, show C = true by simpa using f, show E = false by simpa using j]
 exact ao
 refine bN (fun c => ?_) fun c => ?_
 refine ai (fun S => ?_) fun S => ?_
 refine ac ?_
 have F : A = false := by simpa using c
 have n : fX i.op / 8 % 2 = 0 := by
  have := B
  rw [F] at this
  simpa using this
 have G : dx i.op i.im = false := by
  rw [dx, Qaa (fun q => by have w : fX i.op = 11 := Mz i.op (by omega) (by omega); rw [w] at n; exact absurd n (by decide)), Qaa (fun q => by
   rcases q with q | q
   have w : fX i.op = 9 := MA i.op (by omega) (by omega)
   rw [w] at n; exact absurd n (by decide)
   have w : fX i.op = 10 := MB i.op (by omega) q
   rw [w] at n; exact absurd n (by decide)), Qad n]
  exact Qal S
 rw [G, QcT]
 exact ao
 refine bq () ?_
 refine ⟨⟨by simpa using g, by simpa using f, by simpa using j⟩, fun q => ?_, D⟩
 cases o : A with
 | false => first | omega | (rw [o] at c; exact absurd rfl c) | (rw [o] at c; simp at c)
 | true => exact absurd q (Q o)
 refine bq () ?_
 refine ⟨⟨by simpa using g, by simpa using f, by simpa using j⟩, fun q => ?_, D⟩
 cases o : A with
 | false => first | omega | (rw [o] at c; exact absurd rfl c) | (rw [o] at c; simp at c)
 | true => exact absurd q (Q o)
 intro _ ⟨⟨V, W, X⟩, T, D⟩
 rw [V, W, X]
 simp only [Qbe]
 refine cy (fun _ : Unit => ¬ (i.op = 18 ∨ i.op = 19 ∨ i.op = 20)) (fun _ => [(1, pV s)]) (fun _ => pt s (ag (fH i) 263) :: R) ?_ ?_
 refine au 6 ?_
 refine cn (fun x => ?_) fun x => ?_
 have e : i.op = 18 ∨ i.op = 19 ∨ i.op = 20 := by omega
 refine bN (fun k => ?_) fun k => ?_
 rw [show dx i.op i.im = decide (i.im ≤ 31) by rw [dx, Qad e]; apply QaA.2; omega]
 exact ac ao
 rw [show dx i.op i.im = false by rw [dx, Qad e]; apply Qal; omega]
 exact ac ao
 refine cn (fun y => ?_) fun y => ?_
 have e : i.op = 18 ∨ i.op = 19 ∨ i.op = 20 := by omega
 refine bN (fun k => ?_) fun k => ?_
 rw [show dx i.op i.im = decide (i.im ≤ 31) by rw [dx, Qad e]; apply QaA.2; omega]
 exact ac ao
 rw [show dx i.op i.im = false by rw [dx, Qad e]; apply Qal; omega]
 exact ac ao
 refine ai (fun Y => ?_) fun Y => ?_
 have e : i.op = 18 ∨ i.op = 19 ∨ i.op = 20 := by omega
 refine bN (fun k => ?_) fun k => ?_
 rw [show dx i.op i.im = decide (i.im ≤ 31) by rw [dx, Qad e]; apply QaA.2; omega]
 exact ac ao
 rw [show dx i.op i.im = false by rw [dx, Qad e]; apply Qal; omega]
 exact ac ao
 exact bq () (by omega)
 intro _ h
 refine cy (fun _ : Unit => ¬ (i.op = 37 ∨ i.op = 38)) (fun _ => [(1, pV s)]) (fun _ => pt s (ag (fH i) 263) :: R) ?_ ?_
 refine au 6 ?_
 refine cn (fun z => ?_) fun z => ?_
 have e : i.op = 37 ∨ i.op = 38 := by omega
 refine bN (fun l => ?_) fun l => ?_
 rw [show dx i.op i.im = decide (i.im < 9) by rw [dx, Qaa h, Qad e]; apply QaA.2; omega]
 exact ac ao
 rw [show dx i.op i.im = false by rw [dx, Qaa h, Qad e]; apply Qal; omega]
 exact ac ao
 refine ai (fun Z => ?_) fun Z => ?_
 have e : i.op = 37 ∨ i.op = 38 := by omega
 refine bN (fun l => ?_) fun l => ?_
 rw [show dx i.op i.im = decide (i.im < 9) by rw [dx, Qaa h, Qad e]; apply QaA.2; omega]
 exact ac ao
 rw [show dx i.op i.im = false by rw [dx, Qaa h, Qad e]; apply Qal; omega]
 exact ac ao
 exact bq () (by omega)
 intro _ m
 refine aw ?_
 refine bN (fun r => ?_) fun r => ?_
 rw [MG h m T, show decide (-8192 ≤ i.im ∧ i.im ≤ 8191) = decide (i.im ≤ 8191) from QaA.2 (by omega)]
 exact ac ao
 rw [MG h m T, show decide (-8192 ≤ i.im ∧ i.im ≤ 8191) = false from Qal (by omega)]
 exact ac ao
theorem a5o w (j : w < 4294967296) : sQ W0 146 [wV w] R (.tuple #[.agg (fH (if gG (fq w) then fq w else Bp)).toArray, .bool (gG (fq w))]) R := by
 have l : w / 262144 < 16384 := by omega
 obtain ⟨i, a⟩ : ∃ i, fq w = i := ⟨_, rfl⟩
 rw [a]
 obtain ⟨z, g⟩ : ∃ z, gG i = z := ⟨_, rfl⟩
 rw [g]
 refine am func146 ntmps146 ?_
 refine bu fun c => ?_
 refine gj (b := c) (o' := ag (fH Bp) 263) rfl ?_
 refine aw ?_
 refine aa (dV rfl rfl (by decide) (iE w 64)) ?_
 refine aa (bG (cj (by omega))) ?_
 refine aa (j5 rfl rfl (by decide) (jU (k := .u32) (s := 6) (by decide))) ?_
 refine aa (dV rfl rfl (by decide) (iE (w / 2 ^ 6) 16)) ?_
 refine aa (bG (cj (by omega))) ?_
 refine aa (j5 rfl rfl (by decide) (jU (k := .u32) (s := 10) (by decide))) ?_
 refine aa (dV rfl rfl (by decide) (iE (w / 2 ^ 10) 16)) ?_
 refine aa (bG (cj (by omega))) ?_
 refine aa (j5 rfl rfl (by decide) (jU (k := .u32) (s := 14) (by decide))) ?_
 refine aa (dV rfl rfl (by decide) (iE (w / 2 ^ 14) 16)) ?_
 refine aa (bG (cj (by omega))) ?_
 refine aa (j5 rfl rfl (by decide) (jU (k := .u32) (s := 18) (by decide))) ?_
 refine aa (bG (cj (by omega))) ?_
 refine bu fun d => ?_
 refine iB 2 aA ?_
 refine cy (fun _ : Unit => True) (fun _ => [(2, pV c), (4, pV d)]) (fun _ => pt c (ag (fH Bp) 263) :: pt d (ag (fH i) 263) :: R) ?_ ?_
 refine au 1 ?_
 refine gj (b := d) (o' := ag (fH ⟨w % 64, w / 64 % 16, w / 1024 % 16, w / 16384 % 16, ((w / 262144 : Nat) : Int)⟩) 263) rfl ?_
 refine aw ?_
 refine ai (fun e => ?_) fun e => ?_
 refine aa (l8 rfl rfl (show IntKind.wrap .i64 (((w / 262144 : Nat) : Int) - 16384) = ((w / 262144 : Nat) : Int) - 16384 from cj (by omega))) ?_
 refine ar (iU (by exact rfl : (fH ⟨w % 64, w / 64 % 16, w / 1024 % 16, w / 16384 % 16, ((w / 262144 : Nat) : Int)⟩).set 4 (iQ (((w / 262144 : Nat) : Int) - 16384)) = fH ⟨w % 64, w / 64 % 16, w / 1024 % 16, w / 16384 % 16, ((w / 262144 : Nat) : Int) - 16384⟩)) ?_
 refine bq () ?_ (he := ?_)
 trivial
 rw [← a, fq, rP, Qaa (by have h : (8192 : Int) ≤ ((w / 262144 : Nat) : Int) := e; omega)]
 exact IO
 refine bq () ?_ (he := ?_)
 trivial
 rw [← a, fq, rP, Qad (by have h : ¬ ((8192 : Int) ≤ ((w / 262144 : Nat) : Int)) := e; omega)]
 exact IO
 intro _ _
 refine aw ?_
 refine ah (aB Oj (FH i)) ?_
 rw [g]
 refine ai (fun f => ?_) fun f => ?_
 refine ar aA ?_
 refine aV (.cons (b0 C5 py rfl rfl) (.cons (aR rfl) .nil)) ?_
 rw [show z = false by simpa using f]
 exact ao
 refine ar aA ?_
 refine aV (.cons (b0 C5 py rfl rfl) (.cons (aR rfl) .nil)) ?_
 rw [show z = true by simpa using f]
 exact ao
theorem wL {a} (h : ¬ (a = 35 ∨ a = 36 ∨ a = 37 ∨ a = 38 ∨ a = 39)) : i7 a = ((a : Int) == 40) := by
 rw [Qag, QaZ]
 unfold i7
 rw [Qaj]
 omega
theorem a5p (a : Nat) : sQ W0 223 [iQ a] R (.bool (i7 a)) R := by
 refine am func223 ntmps223 ?_
 refine cn (fun e => ?_) fun e => ?_
 refine ac ?_
 first | (rw [show i7 a = true from Qai (by omega)]; exact ⟨_, ⟨rfl, rfl⟩, inferInstance⟩) | (rw [wL (by omega)]; exact ⟨_, ⟨rfl, rfl⟩, inferInstance⟩)
 refine cn (fun f => ?_) fun f => ?_
 refine ac ?_
 first | (rw [show i7 a = true from Qai (by omega)]; exact ⟨_, ⟨rfl, rfl⟩, inferInstance⟩) | (rw [wL (by omega)]; exact ⟨_, ⟨rfl, rfl⟩, inferInstance⟩)
 refine cn (fun b => ?_) fun b => ?_
 refine ac ?_
 first | (rw [show i7 a = true from Qai (by omega)]; exact ⟨_, ⟨rfl, rfl⟩, inferInstance⟩) | (rw [wL (by omega)]; exact ⟨_, ⟨rfl, rfl⟩, inferInstance⟩)
 refine cn (fun c => ?_) fun c => ?_
 refine ac ?_
 first | (rw [show i7 a = true from Qai (by omega)]; exact ⟨_, ⟨rfl, rfl⟩, inferInstance⟩) | (rw [wL (by omega)]; exact ⟨_, ⟨rfl, rfl⟩, inferInstance⟩)
 refine cn (fun d => ?_) fun d => ?_
 refine ac ?_
 first | (rw [show i7 a = true from Qai (by omega)]; exact ⟨_, ⟨rfl, rfl⟩, inferInstance⟩) | (rw [wL (by omega)]; exact ⟨_, ⟨rfl, rfl⟩, inferInstance⟩)
 refine ac ?_
 first | (rw [show i7 a = true from Qai (by omega)]; exact ⟨_, ⟨rfl, rfl⟩, inferInstance⟩) | (rw [wL (by omega)]; exact ⟨_, ⟨rfl, rfl⟩, inferInstance⟩)
theorem FI : ∀ x, x < 16 → ∀ k, k ≤ 14 → ip .u32 (x : Nat) (k : Nat) = (x * 2 ^ k : Nat) := by decide +kernel
theorem a5q i (c : gG i = true) : sQ W0 308 [.agg (fH i).toArray] R (.tuple #[wV (my i), iQ 0]) R := by
 obtain ⟨j, f, g, h, k⟩ := rQ c
 rw [a5i c]
 refine am func308 ntmps308 ?_
 refine bB fun l => ?_
 refine ah (aB Oj (FH i)) ?_
 refine aC rfl (fun e => ?_) fun e => ?_
 rw [c] at e; exact absurd e (by decide)
 refine aw ?_
 refine aa (bG (cZ (by omega))) ?_
 refine aa (bG (cZ (by omega))) ?_
 refine aa (l9 rfl rfl (by decide) (FI i.d f 6 (by decide))) ?_
 refine aa (dQ (i.op + i.d * 64)) ?_
 refine aa (bG (cZ (by omega))) ?_
 refine aa (l9 rfl rfl (by decide) (FI i.a g 10 (by decide))) ?_
 refine aa (dQ (i.op + i.d * 64 + i.a * 1024)) ?_
 refine aa (bG (cZ (by omega))) ?_
 refine aa (l9 rfl rfl (by decide) (FI i.b h 14 (by decide))) ?_
 refine aa (dQ (i.op + i.d * 64 + i.a * 1024 + i.b * 16384)) ?_
 refine aa (bG (d8 i.im)) ?_
 refine aa (l9 rfl rfl (by decide) (yA _ _)) ?_
 refine aa (dh rfl rfl (d8 _)) ?_
 exact ax ao
section
variable (W0 : World) (R : List HP) (i : Ins) (rb cb : Nat) (clock : Int) (x : Cpu) (id : Nat)
theorem yX {W0 R} c t : sQ W0 224 [wV c, wV t] R (.agg (cK (m6 c t)).toArray) R := by
 refine am func224 ntmps224 ?_
 refine eH (di l7) fun a => ?_
 refine aL (aH (aO (aY (ae rfl (aM rfl) (ae rfl (aM rfl) (ae rfl (fT sq l7 (aP aS (aP aX (aP aX (aP aS (aP iN (aP aS (aP aX (aP aX (aP aX fR))))))))) (cu rfl aS rfl rfl (Qab rfl) SetL.eq (cu rfl aX rfl rfl (Qab rfl) SetL.eq (cu rfl aX rfl rfl (Qab rfl) SetL.eq fQ)))) ?_))))))
 refine fh (gi dv rfl rfl rfl rfl rfl) ?_
 rintro _ _ rfl
 refine aL (aH (dE ?_))
 exact aV (.cons (b0 dK dv rfl rfl) .nil) ao
theorem MH {W0 R} i (a : gG i = true) : sQ W0 225 [.agg (fH i).toArray] R (wV (my i)) R := by
 refine am func225 ntmps225 ?_
 refine bB fun b => ?_
 refine ah (aB call308 (a5q i a)) ?_
 exact ac ao
theorem tM (a : x.rl.length = 16) pc : sQ W0 227 [pV rb, wV pc] (pt rb (dB x.rl x.pc) :: R) (.agg (cK (lp x pc).1).toArray) (pt rb (dB (lp x pc).2.rl (lp x pc).2.pc) :: R) := by
 refine am func227 ntmps227 ?_
 refine bu fun b => ?_
 refine fh (lU aX rfl rfl rfl (by rw [r9 a]; decide) (tJ a)) ?_
 rintro _ _ rfl
 refine aL (aH (aO (aY (ae rfl (aM rfl) (ae rfl (fT sq l7 (aP aS (aP aX (aP aX (aP aS (aP iN (aP aS (aP aX (aP aX (aP aX fR))))))))) (cu rfl aS rfl rfl (Qab rfl) SetL.eq (cu rfl aX rfl rfl (Qab rfl) SetL.eq fQ))) ?_)))))
 refine fh (gi dv rfl rfl rfl rfl rfl) ?_
 rintro _ _ rfl
 refine aL (aH (dE ?_))
 exact aV (.cons (b0 dK dv rfl rfl) .nil) ao
def px (i : Ins) (x : Cpu) : Nat :=
  if i.op = 22 then uv i.im else if 14 ≤ i.op ∧ i.op ≤ 21 then kC (i5 i.op) (bP x.rl i.a) (u32 i.im) else if 1 ≤ i.op ∧ i.op ≤ 13 then kC i.op (bP x.rl i.a) (bP x.rl i.b) else 0
theorem a5r {op} (h : 14 ≤ op ∧ op ≤ 21) : 1 ≤ i5 op ∧ i5 op ≤ 13 := by
 unfold i5; split
 decide
 split
 decide
 omega
theorem MI {i x} (a : CpOk x) : px i x < 4294967296 := by
 unfold px
 split; · exact dJ _
 split; · exact vY (a.r.at_ _) (dJ _)
 split; · exact vY (a.r.at_ _) (a.r.at_ _)
 decide
theorem a5s (e : CpOk x) (h : gG i = true) : sQ W0 226 [.agg (fH i).toArray, pV rb] (pt rb (dB x.rl x.pc) :: R) (.tuple #[wV (px i x), .bool (decide (i.op ≤ 22))]) (pt rb (dB x.rl x.pc) :: R) := by
 obtain ⟨o, p, j, k, q⟩ := rQ h
 have f := e.r.at_ i.a
 have l := e.r.at_ i.b
 refine am func226 ntmps226 ?_
 refine bB fun s => ?_
 refine ah (ap wX (uT rb i.a e.r.len j)) ?_
 refine ah (ap wX (uT rb i.b e.r.len k)) ?_
 refine ai (fun m => ?_) fun m => ?_
 refine ah (aB call310 (a5j W0 _ i.im)) ?_
 refine ax ?_
 rw [px, Qad (by omega), Qai (by omega)]
 exact ao
 refine ah (aB call311 (a5k W0 _ i.op (by omega))) ?_
 refine ai (fun d => ?_) fun d => ?_
 have g := a5r d
 rw [Qad d]
 refine aa (bG (d8 i.im)) ?_
 refine ah (aB call312 (ME W0 _ (bP x.rl i.a) (u32 i.im) (i5 i.op) (by omega) f (dJ _))) ?_
 rw [Qad g, Qad g]
 refine ax ?_
 rw [show px i x = kC (i5 i.op) (bP x.rl i.a) (u32 i.im) by rw [px, Qaa (by omega), Qad d], Qai (by omega)]
 exact ao
 refine ah (aB call312 (ME W0 _ (bP x.rl i.a) (bP x.rl i.b) i.op (by omega) f l)) ?_
 refine ax ?_
 have n : px i x = if 1 ≤ i.op ∧ i.op ≤ 13 then kC i.op (bP x.rl i.a) (bP x.rl i.b) else 0 := by rw [px, Qaa (by omega), Qaa d]
 rw [n]
 by_cases c : 1 ≤ i.op ∧ i.op ≤ 13
 rw [Qad c, Qad c, Qai (show i.op ≤ 22 by omega)]
 exact ao
 rw [Qaa c, Qaa c, Qal (show ¬ i.op ≤ 22 by omega)]
 exact ao
theorem a5t (n : CpOk x) (w : i.a < 16) (y : i.b < 16) (h : 23 ≤ i.op ∧ i.op ≤ 27) : sQ W0 228 [.agg (fH i).toArray, pV rb] (pt rb (dB x.rl x.pc) :: R) (.agg (cK (rR i x)).toArray) (pt rb (dB x.rl x.pc) :: R) := by
 obtain ⟨d, o⟩ : ∃ a, mD (bP x.rl i.a) i.im = a := ⟨_, rfl⟩
 obtain ⟨g, e⟩ : ∃ z, decide (i.op = 23 ∨ i.op = 26) = z := ⟨_, rfl⟩
 have A : mF i.op = if g then 4 else 1 := by
  rw [mF, ← e]
  by_cases q : i.op = 23 ∨ i.op = 26
  rw [Qad q, Qai q]; rfl
  rw [Qaa q, Qal q]; rfl
 rw [rR, o, A]
 refine am func228 ntmps228 ?_
 refine bB fun f => ?_
 refine bu fun j => ?_
 refine gj (b := f) (o' := ag (fH i) 263) rfl ?_
 refine gj (b := j) (o' := ag (cK m5) 267) rfl ?_
 refine aw ?_
 refine ah (ap wX (uT rb i.a n.r.len w)) ?_
 refine ah (ap wX (uT rb i.b n.r.len y)) ?_
 refine aa (bG (d8 i.im)) ?_
 refine jS 3 (dh rfl rfl (show _ = ((d : Nat) : Int) by rw [← o]; exact d8 _)) ?_
 refine cy (fun _ : Unit => True) (fun _ => [(1, pV rb), (2, pV f), (4, pV j), (5, wV (bP x.rl i.a)), (7, wV (bP x.rl i.b)), (9, wV d), (10, .bool g)]) (fun _ => pt f (ag (fH i) 263) :: pt j (ag (cK m5) 267) :: pt rb (dB x.rl x.pc) :: R) ?_ ?_
 refine au 5 ?_
 refine cn (fun p => ?_) fun p => ?_
 refine df () ?_ ?_ ?_
 trivial
 · repeat (first | exact bK | refine aZ rfl ?_ | refine aZ (by first | exact mh e (by omega) | exact pw e (by omega)) ?_)
 exact IO
 refine df () ?_ ?_ ?_
 trivial
 · repeat (first | exact bK | refine aZ rfl ?_ | refine aZ (by first | exact mh e (by omega) | exact pw e (by omega)) ?_)
 exact IO
 intro _ _
 refine cy (fun _ : Unit => d % (if g then 4 else 1) = 0) (fun _ => [(1, pV rb), (2, pV f), (4, pV j), (7, wV (bP x.rl i.b)), (9, wV d), (10, .bool g)]) (fun _ => pt f (ag (fH i) 263) :: pt j (ag (cK m5) 267) :: pt rb (dB x.rl x.pc) :: R) ?_ ?_
 refine au 4 ?_
 refine bN (fun c => ?_) fun c => ?_
 refine aa (dV rfl rfl (by decide) (iE d 4)) ?_
 refine ai (fun B => ?_) fun B => ?_
 refine ah (aB CF (yX 2 d)) ?_
 refine ar aA ?_
 refine aV (.cons (b0 dK dv rfl rfl) .nil) ?_
 rw [Qad (by rw [Qad c]; omega)]
 exact ao
 refine bq () ?_
 first | rw [Qaa c, Nat.mod_one] | (rw [Qad c]; omega)
 refine bq () ?_
 first | rw [Qaa c, Nat.mod_one] | (rw [Qad c]; omega)
 intro _ v
 refine au 5 ?_
 refine cy (fun _ : Unit => d % (if g then 4 else 1) = 0) (fun _ => [(1, pV rb), (2, pV f), (4, pV j), (7, wV (bP x.rl i.b)), (9, wV d), (11, iQ ((if g then 4 else 1 : Nat) : Int))]) (fun _ => pt f (ag (fH i) 263) :: pt j (ag (cK m5) 267) :: pt rb (dB x.rl x.pc) :: R) ?_ ?_
 refine au 5 ?_
 refine ai (fun C => ?_) fun C => ?_
 refine df () ?_ ?_ ?_
 exact v
 · rw [Qad (by assumption)]
   repeat (first | exact bK | refine aZ rfl ?_)
 exact IO
 refine df () ?_ ?_ ?_
 exact v
 · rw [Qaa (by assumption)]
   repeat (first | exact bK | refine aZ rfl ?_)
 exact IO
 intro _ D
 obtain ⟨m, t⟩ : ∃ m, (if g then 4 else 1 : Nat) = m := ⟨_, rfl⟩
 rw [t] at D ⊢
 rw [Qaa (by omega)]
 obtain ⟨F, E⟩ : ∃ z, decide (i.op = 26 ∨ i.op = 27) = z := ⟨_, rfl⟩
 refine aw ?_
 refine cn (fun l => ?_) fun l => ?_
 refine aa (aE (aI (oz n.r.len))) ?_
 refine ae rfl (dh rfl rfl (d8 _)) ?_
 refine ae rfl (fT sq l7 (aP aS (aP aX (aP aX (aP aS (aP iN (aP aS (aP aX (aP aX (aP aX fR))))))))) (cu rfl aS rfl rfl (Qab rfl) SetL.eq (cu rfl aX rfl rfl (Qab rfl) SetL.eq (cu rfl aS rfl rfl (Qab rfl) SetL.eq (cu rfl aX rfl rfl (Qab rfl) SetL.eq (cu rfl aX rfl rfl (Qab rfl) SetL.eq fQ)))))) ?_
 refine fh (gi dv rfl rfl rfl rfl rfl) ?_
 rintro _ _ rfl
 refine aL (aH (dE (iP (aV (.cons (b0 dK dv rfl rfl) .nil) ?_))))
 rw [Qad (by omega)]
 exact ao
 refine aC rfl (fun u => ?_) fun u => ?_
 refine aO ?_
 refine aY (ae rfl (aM rfl) (ae rfl (aM rfl) (ae rfl (aM rfl) (ae rfl (aM rfl) (ae rfl (kL rfl) ?_)))))
 refine ae rfl (d5 rfl a7C rfl aX rfl (by first | exact Qac _ | rfl)) ?_
 refine ae rfl (aE (aI (oz n.r.len))) ?_
 refine ae rfl (dh rfl rfl (d8 _)) ?_
 refine ae rfl (fT sq l7 (aP aS (aP aX (aP aX (aP aS (aP iN (aP aS (aP aX (aP aX (aP aX fR))))))))) (cu rfl aS rfl rfl (Qab rfl) SetL.eq (cu rfl aX rfl rfl (Qab rfl) SetL.eq (cu rfl aS rfl rfl (Qab rfl) SetL.eq (cu rfl aX rfl rfl (Qab rfl) SetL.eq (cu rfl aX rfl rfl (Qab rfl) SetL.eq fQ)))))) ?_
 refine fh (gi dv rfl rfl rfl rfl rfl) ?_
 rintro _ _ rfl
 refine aL (aH (dE (iP (aV (.cons (b0 dK dv rfl rfl) .nil) ?_))))
 rw [Qad (by omega)]
 exact ao
 refine jk (aH (aO ?_))
 refine bz [f, rb] 14 fun s => ?_
 refine aj 0 10 s ?_
 refine az 10 s (aE (dq (k := 1) rfl (oz n.r.len))) ?_
 refine az 11 s (dh rfl rfl (d8 _)) ?_
 refine dr 12 rfl rfl rfl s (fT sq l7 (aP aS (aP aX (aP aX (aP aS (aP iN (aP aS (aP aX (aP aX (aP aX fR))))))))) (cu rfl aS rfl rfl (Qab rfl) SetL.eq (cu rfl aX rfl rfl (Qab rfl) SetL.eq (cu rfl aS rfl rfl (Qab rfl) SetL.eq (cu rfl iN rfl rfl (Qab rfl) SetL.eq (cu rfl aS rfl rfl (Qab rfl) SetL.eq (cu rfl aX rfl rfl (Qab rfl) SetL.eq fQ))))))) ?_
 refine cm 13 aA fun s => ?_
 refine aJ ?_
 refine aV (.cons (b0 dK dv rfl rfl) .nil) ?_
 rw [Qaa (by omega), show decide (i.op = 24) = (((i.op : Nat) : Int) == 24) from MF (by omega)]
 exact ao
theorem MJ (c : CpOk x) (B : i.d < 16) (u : i.a < 16) (v : i.b < 16) (h : 28 ≤ i.op ∧ i.op ≤ 33) : sQ W0 229 [.agg (fH i).toArray, pV rb] (pt rb (dB x.rl x.pc) :: R) (.agg (cK (gn id clock.toNat i x).1).toArray) (pt rb (dB (gn id clock.toNat i x).2.rl (gn id clock.toNat i x).2.pc) :: R) := by
 have w := c.r.at_ i.a
 have y := c.r.at_ i.b
 obtain ⟨z, t⟩ : ∃ z, uu i.op (bP x.rl i.a) (bP x.rl i.b) = z := ⟨_, rfl⟩
 have e : gK (i.d : Int) = true := by simp only [gK, Qak]; omega
 rw [gn, Qaa (by omega), Qaa (by omega), Qaa (by omega), Qaa (by omega), t]
 refine am func229 ntmps229 ?_
 refine bB fun l => ?_
 refine bu fun m => ?_
 refine gj (b := l) (o' := ag (fH i) 263) rfl ?_
 refine gj (b := m) (o' := ag (cK m5) 267) rfl ?_
 refine aw ?_
 refine ah (ap wX (uT rb i.a c.r.len u)) ?_
 refine ah (ap wX (uT rb i.b c.r.len v)) ?_
 refine aa (aE (aI (oz c.r.len))) ?_
 refine aa (dh rfl rfl (d8 _)) ?_
 refine bz [l, rb] 10 fun f => ?_
 refine aj 0 3 f ?_
 refine az 3 f (aE (dq (k := 1) rfl (oz c.r.len))) ?_
 refine aj 4 2 f ?_
 refine az 6 f (bG (d8 i.im)) ?_
 refine az 7 f (qg rfl rfl (d8 _)) ?_
 refine az 8 f (dh rfl rfl (d8 _)) ?_
 refine aj 9 1 f ?_
 refine aJ ?_
 refine dk rfl rfl rfl (fun o => ?_) fun o => ?_
 refine au 6 ?_
 refine cy (fun _ : Unit => 32 ≤ i.op) (fun _ => [(1, pV rb), (2, pV l), (4, pV m), (9, wV (cP x.pc)), (10, wV (if i.op = 33 then mD (bP x.rl i.a) i.im else mz x.pc i.im))]) (fun _ => pt l (ag (fH i) 263) :: pt m (ag (cK m5) 267) :: pt rb (dB x.rl x.pc) :: R) ?_ ?_
 refine au 7 ?_
 refine ai (fun p => ?_) fun p => ?_
 refine aa (bG (d8 i.im)) ?_
 refine aa (dh rfl rfl (d8 _)) ?_
 refine df () ?_ ?_ ?_
 omega
 · rw [Qad (by omega)]
   repeat (first | exact bK | refine aZ rfl ?_)
 exact IO
 refine df () ?_ ?_ ?_
 omega
 · rw [Qaa (by omega)]
   repeat (first | exact bK | refine aZ rfl ?_)
 exact IO
 intro _ q
 rw [Qaa (by omega), Qad (by omega)]
 obtain ⟨s, g⟩ : ∃ n, (if i.op = 33 then mD (bP x.rl i.a) i.im else mz x.pc i.im) = n := ⟨_, rfl⟩
 rw [g]
 refine aw ?_
 refine ah (ap zH (wI rb (cP x.pc) i.d c.r.len)) ?_
 rw [Qad e, Qad e, Qaf]
 refine ah (ap vk (tM W0 _ rb { x with rl := j8 x.rl i.d (cP x.pc) } (c.r.set i.d (cP x.pc) (dJ _)).len s)) ?_
 refine ar aA ?_
 exact aV (.cons (b0 dK dv rfl rfl) .nil) ao
 refine aw ?_
 refine aC rfl (fun A => ?_) fun A => ?_
 refine cy (fun _ : Unit => 32 ≤ i.op) (fun _ => [(1, pV rb), (2, pV l), (4, pV m), (9, wV (cP x.pc)), (10, wV (if i.op = 33 then mD (bP x.rl i.a) i.im else mz x.pc i.im))]) (fun _ => pt l (ag (fH i) 263) :: pt m (ag (cK m5) 267) :: pt rb (dB x.rl x.pc) :: R) ?_ ?_
 refine au 7 ?_
 refine ai (fun p => ?_) fun p => ?_
 refine aa (bG (d8 i.im)) ?_
 refine aa (dh rfl rfl (d8 _)) ?_
 refine df () ?_ ?_ ?_
 omega
 · rw [Qad (by omega)]
   repeat (first | exact bK | refine aZ rfl ?_)
 exact IO
 refine df () ?_ ?_ ?_
 omega
 · rw [Qaa (by omega)]
   repeat (first | exact bK | refine aZ rfl ?_)
 exact IO
 intro _ q
 rw [Qaa (by omega), Qad (by omega)]
 obtain ⟨s, g⟩ : ∃ n, (if i.op = 33 then mD (bP x.rl i.a) i.im else mz x.pc i.im) = n := ⟨_, rfl⟩
 rw [g]
 refine aw ?_
 refine ah (ap zH (wI rb (cP x.pc) i.d c.r.len)) ?_
 rw [Qad e, Qad e, Qaf]
 refine ah (ap vk (tM W0 _ rb { x with rl := j8 x.rl i.d (cP x.pc) } (c.r.set i.d (cP x.pc) (dJ _)).len s)) ?_
 refine ar aA ?_
 exact aV (.cons (b0 dK dv rfl rfl) .nil) ao
 refine aw ?_
 rw [Qad (by omega)]
 refine ah (aB call313 (a5m W0 _ (bP x.rl i.a) (bP x.rl i.b) i.op (by omega) w y)) ?_
 rw [t]
 refine ai (fun j => ?_) fun j => ?_
 rw [Qad j]
 refine ah (ap vk (tM W0 _ rb x c.r.len (mz x.pc i.im))) ?_
 refine ar aA ?_
 exact aV (.cons (b0 dK dv rfl rfl) .nil) ao
 rw [Qaa j]
 refine ah (ap vk (tM W0 _ rb x c.r.len (cP x.pc))) ?_
 refine ar aA ?_
 exact aV (.cons (b0 dK dv rfl rfl) .nil) ao
theorem BU (e : CpOk x) (y : gG i = true) (m : id < 4) (A : 0 ≤ clock) (h : 34 ≤ i.op) (B : i7 i.op = true → dR x.cs = true) : sQ W0 230 [.agg (fH i).toArray, pV rb, pV cb, iQ clock] (pt rb (dB x.rl x.pc) :: pt cb (dT x.cs id) :: R) (.agg (cK (kF id clock.toNat i x).1).toArray) (pt rb (dB (kF id clock.toNat i x).2.rl (kF id clock.toNat i x).2.pc) :: pt cb (dT (kF id clock.toNat i x).2.cs id) :: R) := by
 obtain ⟨J, K, C, L, z⟩ := rQ y
 have o : gK (i.d : Int) = true := by simp only [gK, Qak]; omega
 have f : 35 ≤ i.op → i.op ≤ 40 → dR x.cs = true := fun a b => B (by unfold i7; rw [Qaj]; omega)
 rw [kF]
 refine am func230 ntmps230 ?_
 refine bB fun D => ?_
 refine bu fun E => ?_
 refine gj (b := D) (o' := ag (fH i) 263) rfl ?_
 refine gj (b := E) (o' := ag (cK m5) 267) rfl ?_
 refine aw ?_
 refine aa (aE (aI (oz e.r.len))) ?_
 refine aa (dh rfl rfl (d8 _)) ?_
 refine ai (fun F => ?_) fun F => ?_
 refine ah (aB CF (yX 6 0)) ?_
 refine ar aA ?_
 refine aV (.cons (b0 dK dv rfl rfl) .nil) ?_
 rw [Qad (by omega)]
 exact ao
 refine ai (fun G => ?_) fun G => ?_
 refine aa (aE (aI (oz e.r.len))) ?_
 refine ah (aB CF (yX 8 x.pc)) ?_
 refine ar aA ?_
 refine aV (.cons (b0 dK dv rfl rfl) .nil) ?_
 rw [Qaa (by omega), Qad (by omega)]
 exact ao
 refine ai (fun H => ?_) fun H => ?_
 refine ar aA ?_
 refine aV (.cons (b0 dK dv rfl rfl) .nil) ?_
 rw [Qaa (by omega), Qaa (by omega), Qaa (by omega), Qaa (by omega), Qaa (by omega), qD, Qad (by omega)]
 exact ao
 refine ai (fun I => ?_) fun I => ?_
 refine ar aA ?_
 refine aV (.cons (b0 dK dv rfl rfl) .nil) ?_
 rw [Qaa (by omega), Qaa (by omega), Qaa (by omega), Qaa (by omega), Qaa (by omega), qD, Qaa (by omega), Qad (by omega)]
 exact ao
 refine ai (fun s => ?_) fun s => ?_
 refine ar aA ?_
 refine aV (.cons (b0 dK dv rfl rfl) .nil) ?_
 rw [Qaa (by omega), Qaa (by omega), Qaa (by omega), Qaa (by omega), Qaa (by omega), qD, Qaa (by omega), Qaa (by omega)]
 exact ao
 refine ai (fun t => ?_) fun t => ?_
 rw [Qaa (by omega), Qaa (by omega), Qad (by omega)]
 refine ah (ap call314 (a4X cb e.cs)) ?_
 refine ah (ap vk (tM W0 _ rb x e.r.len (d9 x.cs 2))) ?_
 refine ar aA ?_
 exact aV (.cons (b0 dK dv rfl rfl) .nil) ao
 refine aC rfl (fun u => ?_) fun u => ?_
 refine au 1 ?_
 rw [Qaa (by omega), Qaa (by omega), Qaa (by omega), Qad (by omega)]
 have g := f (by omega) (by omega)
 have j : ∃ n : Nat, i.im = (n : Int) ∧ n < 9 := by
  have p := z
  rw [dx, Qaa (by omega), Qad (by omega)] at p
  have := Qar p
  exact ⟨i.im.toNat, by omega, by omega⟩
 obtain ⟨n, w, k⟩ := j
 refine au 3 ?_
 refine jS 1 (aE (aI (v := iQ (n : Int)) (by rw [← w]; rfl))) ?_
 refine ah (ap call315 (a4V cb e.cs m n k clock A)) ?_
 rw [Qad g, Qad g, show n = i.im.toNat by omega]
 refine ah (ap zH (wI rb (oW x.cs id clock.toNat i.im.toNat) i.d e.r.len)) ?_
 rw [Qad o, Qad o, Qaf]
 refine ah (ap vk (tM W0 _ rb { x with rl := j8 x.rl i.d (oW x.cs id clock.toNat i.im.toNat) } (e.r.set i.d _ (DK e.cs m)).len (cP x.pc))) ?_
 refine ar aA ?_
 exact aV (.cons (b0 dK dv rfl rfl) .nil) ao
 refine aw ?_
 rw [Qaa (by omega), Qaa (by omega), Qaa (by omega), Qaa (by omega), Qad (by omega)]
 have g := f (by omega) (by omega)
 have j : ∃ n : Nat, i.im = (n : Int) ∧ n < 9 := by
  have p := z
  rw [dx, Qaa (by omega), Qad (by omega)] at p
  have := Qar p
  exact ⟨i.im.toNat, by omega, by omega⟩
 obtain ⟨n, w, k⟩ := j
 rw [show i.im.toNat = n by omega]
 refine eh 12 (ap wX (uT rb i.a e.r.len C)) ?_
 refine jS 1 (aE (aI (v := iQ (n : Int)) (by rw [← w]; rfl))) ?_
 refine ah (ap call316 (a4W cb e.cs n (bP x.rl i.a) k (e.r.at_ _) g)) ?_
 refine aC rfl (fun l => ?_) fun l => ?_
 refine au 1 ?_
 have c : ¬ n ≤ 6 := fun q => l (by rw [Qad q])
 rw [Qaa c, Qaa c, Qaa c]
 refine aw ?_
 refine ah (aB call225 (MH i y)) ?_
 refine ah (aB CF (yX 1 (my i))) ?_
 refine ar aA ?_
 exact aV (.cons (b0 dK dv rfl rfl) .nil) ao
 refine au 3 ?_
 have c : n ≤ 6 := by
  rcases QaC 6 n with q | q
  exact absurd (by rw [Qaa (by omega)]; decide) l
  exact q
 rw [Qad c, Qad c, Qad c]
 refine aw ?_
 refine ah (ap vk (tM W0 _ rb x e.r.len (cP x.pc))) ?_
 refine ar aA ?_
 exact aV (.cons (b0 dK dv rfl rfl) .nil) ao
theorem a5u {id k i x} (h : 1 ≤ i.op ∧ i.op ≤ 22) : gn id k i x = jW i x (px i x) (cP x.pc) := by
 rw [gn, px]
 by_cases a : i.op ≤ 13
 rw [Qad a, Qaa (by omega), Qaa (by omega), Qad (by omega)]
 rw [Qaa a]
 by_cases b : i.op ≤ 21
 rw [Qad b, Qaa (by omega), Qad (by omega)]
 rw [Qaa b, Qad (by omega), Qad (by omega)]
theorem FJ (hx : CpOk x) (hi : gG i = true) (hid : id < 4) (hc : 0 ≤ clock) : sQ W0 147 [.agg (fH i).toArray, pV rb, pV cb, iQ clock] (pt rb (dB x.rl x.pc) :: pt cb (dT x.cs id) :: R) (.tuple #[.agg (cK (jX id clock.toNat i x).1).toArray, iQ 0]) (pt rb (dB (jX id clock.toNat i x).2.rl (jX id clock.toNat i x).2.pc) :: pt cb (dT (jX id clock.toNat i x).2.cs id) :: R) := by
 obtain ⟨B, y, p, s, C⟩ := rQ hi
 have m : gK (i.d : Int) = true := by simp only [gK, Qak]; omega
 obtain ⟨t, e⟩ : ∃ k, i7 i.op = k := ⟨_, rfl⟩
 obtain ⟨o, f⟩ : ∃ k, dR x.cs = k := ⟨_, rfl⟩
 rw [jX, e, f]
 refine am func147 ntmps147 ?_
 refine bB fun u => ?_
 refine bu fun v => ?_
 refine gj (b := u) (o' := ag (fH i) 263) rfl ?_
 refine gj (b := v) (o' := ag (cK m5) 267) rfl ?_
 refine aw ?_
 refine ah (aB Oj (FH i)) ?_
 refine aC rfl (fun w => ?_) fun w => ?_
 rw [hi] at w; exact absurd rfl w
 refine au 2 ?_
 refine cy (fun _ : Unit => t = true → o = true) (fun _ => [(1, pV rb), (2, pV cb), (3, iQ clock), (4, pV u), (8, pV v)]) (fun _ => pt u (ag (fH i) 263) :: pt v (ag (cK m5) 267) :: pt rb (dB x.rl x.pc) :: pt cb (dT x.cs id) :: R) ?_ ?_
 refine au 4 ?_
 refine ah (aB call223 (a5p i.op)) ?_
 rw [e]
 refine bN (fun a => ?_) fun a => ?_
 refine ah (ap GP (BK cb hx.cs)) ?_
 rw [show qW x.cs = [.bool (i6 x.cs), iQ (gH x.cs), .bool (!o)] by rw [qW, f]]
 refine aa (ED rfl G7 rfl nP rfl) ?_
 refine ai (fun l => ?_) fun l => ?_
 refine ah (aB call225 (MH i hi)) ?_
 refine ah (aB CF (yX 7 (my i))) ?_
 refine ar aA ?_
 refine aV (.cons (b0 dK dv rfl rfl) (.cons (aR rfl) .nil)) ?_
 rw [Qad (by rw [show t = true from a]; first | exact l | (rw [Qbe]; exact l) | (cases o; rfl; exact absurd rfl l))]
 exact ao
 refine bq () ?_
 intro q
 first | (simpa using l) | (subst q; exact absurd rfl a) | exact absurd q a
 refine bq () ?_
 intro q
 first | (simpa using l) | (subst q; exact absurd rfl a) | exact absurd q a
 intro _ g
 rw [Qaa (by cases t <;> cases o <;> first | decide | exact absurd (g rfl) (by decide))]
 refine aw ?_
 refine ah (ap call226 (a5s W0 _ i rb x hx hi)) ?_
 refine ai (fun z => ?_) fun z => ?_
 rw [a5u (by omega)]
 refine ah (ap zH (wI rb (px i x) i.d hx.r.len)) ?_
 rw [Qad m, Qad m, Qaf]
 refine aa (aE (aI (oz (hx.r.set i.d _ (MI hx)).len))) ?_
 refine aa (dh rfl rfl (d8 _)) ?_
 refine ah (ap vk (tM W0 _ rb { x with rl := j8 x.rl i.d (px i x) } (hx.r.set i.d _ (MI hx)).len (cP x.pc))) ?_
 refine ar aA ?_
 exact aV (.cons (b0 dK dv rfl rfl) (.cons (aR rfl) .nil)) ao
 refine bN (fun n => ?_) fun n => ?_
 refine ai (fun A => ?_) fun A => ?_
 rw [show gn id clock.toNat i x = (rR i x, x) by rw [gn, Qaa (by omega), Qaa (by omega), Qaa (by omega), Qad (by omega)]]
 refine ah (ap call228 (a5t W0 _ i rb x hx p s (by omega))) ?_
 refine ar aA ?_
 exact aV (.cons (b0 dK dv rfl rfl) (.cons (aR rfl) .nil)) ao
 refine bN (fun c => ?_) fun c => ?_
 refine ai (fun h => ?_) fun h => ?_
 refine ah (ap call229 (MJ W0 _ i rb clock x id hx y p s (by omega))) ?_
 refine ar aA ?_
 refine aV (.cons (b0 dK dv rfl rfl) (.cons (aR rfl) .nil)) ?_
 have j : (gn id clock.toNat i x).2.cs = x.cs := by
  rw [gn, Qaa (by omega), Qaa (by omega), Qaa (by omega), Qaa (by omega)]
  split
  rfl
  rw [Qad (by omega)]
 rw [j]
 exact ao
 rw [show gn id clock.toNat i x = kF id clock.toNat i x by rw [gn, Qaa (by omega), Qaa (by omega), Qaa (by omega), Qaa (by omega), Qaa (by omega), Qaa (by omega)]]
 refine ah (cv GQ (BU W0 _ i rb cb clock x id hx hi hid hc (by omega) (by rw [e, f]; exact g))) ?_
 refine ar aA ?_
 exact aV (.cons (b0 dK dv rfl rfl) (.cons (aR rfl) .nil)) ao
 rw [show gn id clock.toNat i x = kF id clock.toNat i x by rw [gn, Qaa (by omega), Qaa (by omega), Qaa (by omega), Qaa (by omega), Qaa (by omega), Qaa (by omega)]]
 refine ah (cv GQ (BU W0 _ i rb cb clock x id hx hi hid hc (by omega) (by rw [e, f]; exact g))) ?_
 refine ar aA ?_
 exact aV (.cons (b0 dK dv rfl rfl) (.cons (aR rfl) .nil)) ao
 refine bN (fun c => ?_) fun c => ?_
 refine ai (fun h => ?_) fun h => ?_
 refine ah (ap call229 (MJ W0 _ i rb clock x id hx y p s (by omega))) ?_
 refine ar aA ?_
 refine aV (.cons (b0 dK dv rfl rfl) (.cons (aR rfl) .nil)) ?_
 have j : (gn id clock.toNat i x).2.cs = x.cs := by
  rw [gn, Qaa (by omega), Qaa (by omega), Qaa (by omega), Qaa (by omega)]
  split
  rfl
  rw [Qad (by omega)]
 rw [j]
 exact ao
 rw [show gn id clock.toNat i x = kF id clock.toNat i x by rw [gn, Qaa (by omega), Qaa (by omega), Qaa (by omega), Qaa (by omega), Qaa (by omega), Qaa (by omega)]]
 refine ah (cv GQ (BU W0 _ i rb cb clock x id hx hi hid hc (by omega) (by rw [e, f]; exact g))) ?_
 refine ar aA ?_
 exact aV (.cons (b0 dK dv rfl rfl) (.cons (aR rfl) .nil)) ao
 rw [show gn id clock.toNat i x = kF id clock.toNat i x by rw [gn, Qaa (by omega), Qaa (by omega), Qaa (by omega), Qaa (by omega), Qaa (by omega), Qaa (by omega)]]
 refine ah (cv GQ (BU W0 _ i rb cb clock x id hx hi hid hc (by omega) (by rw [e, f]; exact g))) ?_
 refine ar aA ?_
 exact aV (.cons (b0 dK dv rfl rfl) (.cons (aR rfl) .nil)) ao
end
theorem u8x (w : Nat) (h : w < 4294967296) : u32 (IntKind.wrap .i32 (IntKind.wrap .i8 w)) = if 128 ≤ w % 256 then w % 256 + 4294967040 else w % 256 := by
 unfold u32 IntKind.wrap IntKind.signed IntKind.bits
 simp
 repeat' split
 all_goals omega
theorem a5w (w : Nat) (h : w < 4294967296) : u32 (IntKind.wrap .i32 (IntKind.wrap .i16 w)) = if 32768 ≤ w % 65536 then w % 65536 + 4294901760 else w % 65536 := by
 unfold u32 IntKind.wrap IntKind.signed IntKind.bits
 simp
 repeat' split
 all_goals omega
theorem a5x w (a : w < 4294967296) n : sQ W0 232 [wV w, iQ n] R (wV (oy w n)) R := by
 rw [oy, u8x w a, a5w w a]
 refine am func232 ntmps232 ?_
 refine ai (fun b => ?_) fun b => ?_
 refine aa (dV rfl rfl (by decide) (iE w 256)) ?_
 refine ai (fun c => ?_) fun c => ?_
 refine aa (dh rfl rfl (show _ = ((w % 256 + 4294967040 : Nat) : Int) by rw [cZ (by omega)]; omega)) ?_
 refine ac ?_
 rw [Qad (by omega), Qad (by omega)]
 exact ao
 refine ac ?_
 rw [Qad (by omega), Qaa (by omega)]
 exact ao
 refine ai (fun d => ?_) fun d => ?_
 refine aa (dV rfl rfl (by decide) (iE w 65536)) ?_
 refine ai (fun e => ?_) fun e => ?_
 refine aa (dh rfl rfl (show _ = ((w % 65536 + 4294901760 : Nat) : Int) by rw [cZ (by omega)]; omega)) ?_
 refine ac ?_
 rw [Qaa (by omega), Qad (by omega), Qad (by omega)]
 exact ao
 refine ac ?_
 rw [Qaa (by omega), Qad (by omega), Qaa (by omega)]
 exact ao
 refine ac ?_
 rw [Qaa (by omega), Qaa (by omega)]
 exact ao
structure Rz where
  r : Nat
  c : Nat
  v : Nat
  ps : Nat
  pm : Nat
  pl : Nat
  vic : Nat
  tim : Nat
  bx : Nat
  wv : Value
  i : Nat
  k : Cfg
def q8 : List Value := [.int .u32 0, .int .u32 0, .int .u32 0, .int .i64 0, .bool false, .int .i64 0, .int .i64 0, .int .i64 0]
def FK : List Value := q8 ++ q8 ++ q8
@[reducible] def lQ (z : Rz) (g : Gu) (tv : Value) : List Value := dy z.k ++ [.int .i64 z.i, z.wv, pV z.pl, pV z.r, pV z.c, pV z.v] ++ FK ++ [pV z.vic, pV z.tim, pV z.bx, tv, .int .i64 g.clock, .bool g.halted, wV 0, wV 0, wV 0, wV 0]
abbrev rj (z : Rz) (g : Gu) (tv : Value) : Obj := ag (lQ z g tv) 129
def dZ (b : Nat) (x : Rz × Gu) : HP := chk (fun C => ∃ a c, C = [pt b (rj x.1 x.2 (.slice a x.2.es.length c)), osl 300 21 (.slice a x.2.es.length c) (x.2.es.flatMap ma)])
section
variable {P : Program} {W0 : World} {N : FSz} {K : Act → World → Prop} {e : bi} {A B R R1 R2 : List HP} {b n : Nat} {z : Rz} {g : Gu} {f : FuncId} {args : List Value} {Post : Value → List HP → Prop}
theorem FL (h : ∀ a c, bF P W0 f args (pt b (rj z g (.slice a g.es.length c)) :: osl 300 21 (.slice a g.es.length c) (g.es.flatMap ma) :: R) Post) : bF P W0 f args (dZ b (z, g) :: R) Post :=
  qk fun C d => by obtain ⟨a, c, rfl⟩ := d; exact h a c
theorem oD [f : Tk dZ b A (z, g) R] (h : ∀ a c, av W0 N K e (pt b (rj z g (.slice a g.es.length c)) :: osl 300 21 (.slice a g.es.length c) (g.es.flatMap ma) :: R)) : av W0 N K e A :=
  fV (r := dZ) (b := b) (ni fun C d => by obtain ⟨a, c, rfl⟩ := d; exact h a c)
theorem iy {a c vs} [d : Tk pt b A (rj z g (.slice a n c)) R1] [e : Tk (osl 300 21) (.slice a n c) R1 vs R2] (f : vs = g.es.flatMap ma) (h : n = g.es.length) [k : Ent R2 B] : Ent A (dZ b (z, g) :: B) := by
 subst f; subst h
 exact (Ent.ofPerm (d.perm.trans (e.perm.cons _))).trans ((Ent.cons (Ent.cons k)).trans (fK (R := B) (C := [_, _]) ⟨a, c, rfl⟩))
theorem nN [d : Tk dZ b A (z, g) R] {k v} (e : ∀ f, (lQ z g f)[k]? = some v) : kf (aQ W0 A) b k v := fun w i => by
 obtain ⟨C, ⟨a, c, rfl⟩, h⟩ := (i.perm d.perm).chk
 exact (aI (A := pt b (rj z g (.slice a g.es.length c)) :: osl 300 21 (.slice a g.es.length c) (g.es.flatMap ma) :: R) (e _)) w h
end
section
variable (W0 : World) (R : List HP) (b : Nat) (z : Rz) (g : Gu)
theorem BV tv (a : g.clock < 1000000000) : sQ W0 129 [pV b] (pt b (rj z g tv) :: R) (iQ (dS g.clock)) (pt b (rj z g tv) :: R) := by
 refine lG func129 ntmps129 rfl rfl ?_
 refine aO (aY (ae rfl (bC rfl) (aL (aH (aO (aY (ae rfl (aM rfl) (ae rfl (kL rfl) ?_))))))))
 refine ae rfl (d5 rfl so rfl aS rfl (by first | exact Qac _ | rfl)) ?_
 refine ae rfl (co db rfl (aI rfl)) ?_
 refine ae rfl (l8 rfl rfl (cj (by omega))) ?_
 refine aa (xT rfl rfl (show _ = ((dS g.clock : Nat) : Int) by unfold dS; split <;> omega)) ?_
 exact ac ao
theorem MK {b l m} : bE (SC [(b, 0, l ++ m)]) b 0 l := fun j v hj => by
 have hlt : j < l.length := by rcases QaC j l.length with q | q
                               · exact q
                               rw [Qbk q] at hj; cases hj
 exact km (k := 0) (j := j) rfl (by rw [QaB hlt]; exact hj)
theorem uZ (d : g.clock < 1000000000) : sQ W0 129 [pV b] (dZ b (z, g) :: R) (iQ (dS g.clock)) (dZ b (z, g) :: R) :=
  FL fun a c => gQ (BV W0 _ b z g _ d) fun v B e => by
 obtain ⟨rfl, rfl⟩ := e
 exact ⟨_, ⟨rfl, rfl⟩, iy rfl rfl⟩
theorem v5 (f : g.c.rl.length = 16) k ck x y w : sQ W0 128 [pV b, iQ k, iQ ck, wV x, wV y, wV w] (dZ b (z, g) :: pt z.r (dB g.c.rl g.c.pc) :: R) (.tuple #[]) (dZ b (z, { g with es := pW g.es ⟨k, ck, x, y, w, g.c.rl⟩ }) :: pt z.r (dB g.c.rl g.c.pc) :: R) := by
 refine FL fun a c => ?_
 have j := JM (e := ⟨k, ck, x, y, w, g.c.rl⟩) f
 refine lG func128 ntmps128 rfl rfl ?_
 refine aO (aY (ae rfl (aM rfl) (ae rfl (kL rfl) ?_)))
 refine ae rfl (d5 rfl so rfl FZ rfl (by first | exact Qac _ | rfl)) ?_
 refine ae rfl (co N5 rfl (aI rfl)) ?_
 refine ae rfl (CR pA rfl) (ae rfl (nh rfl rfl) (aL (aH ?_)))
 refine aC rfl (fun m => ?_) fun m => ?_
 refine fj [(z.r, 0, _)] 23 mixed rfl (bL aW) (fun d => ?_)
 refine aj 0 4 d ?_
 refine aj 5 8 d ?_
 refine eD (is := [4, 13]) (by kernel_rfl) rfl ⟨?_, ?_, trivial⟩
 refine cX (dP (aE (aI rfl))) ?_; clear d
 rintro _ _ ⟨rfl, rfl⟩
 refine ⟨aT, fun d => ?_⟩
 refine bY 13 (dP (aE (aI rfl))) fun d => ?_
 refine aj 14 2 d ?_
 refine az 16 d (iS Cs rq rfl (MK) (by rw [Qay, f])) ?_
 refine az 17 d (EF f rfl rfl rfl rfl rfl rfl) ?_
 refine kt 18 (by kernel_rfl) rfl rfl (iA pA zy zA rfl (fp rfl (by simp [f]) hJ) rfl (by decide) (by decide) (by decide)) rfl ?_; clear d
 rintro _ _ ⟨l, rfl, rfl⟩
 refine ⟨aT, fun d => ?_⟩
 refine bQ 19 (eE (sz := 21) (by_ := 96) (info := Tryz.t300) pA (by kernel_rfl) rfl rfl rfl rfl (by decide) rfl rfl en (by simp [f]) (by simp [fi, wV, Value.oneCell']) (by simp only [maxLen]; omega) (by omega)) ?_; clear d
 rintro _ _ ⟨h, i, rfl, rfl⟩
 refine ⟨aT, fun d => ?_⟩
 refine aj 20 2 d ?_
 refine cm 22 (iU (by exact rfl : (lQ z g (.slice a g.es.length c)).set 41 (.slice h (g.es.length + 1) i) = lQ z g (.slice h (g.es.length + 1) i))) fun d => ?_
 refine hQ ?_
 refine bU (.inr rfl) .nil ?_
 rw [pW, Qad (by omega)]
 exact ⟨_, ⟨rfl, rfl⟩, iy (g := { g with es := g.es ++ [⟨k, ck, x, y, w, g.c.rl⟩] }) (by simp [j]) (by simp)⟩
 skip
 refine cX (dP (aE (aI rfl))) ?_; clear d
 rintro _ _ ⟨rfl, rfl⟩
 refine ⟨aT, fun d => ?_⟩
 refine aj 14 2 d ?_
 refine az 16 d (iS Cs rq rfl (MK) (by rw [Qay, f])) ?_
 refine az 17 d (EF f rfl rfl rfl rfl rfl rfl) ?_
 refine eD (is := [4, 18]) (by kernel_rfl) rfl ⟨?_, ?_, trivial⟩
 refine cX (dP (aE (aI rfl))) ?_; clear d
 rintro _ _ ⟨rfl, rfl⟩
 refine ⟨aT, fun d => ?_⟩
 refine kt 18 (by kernel_rfl) rfl rfl (iA pA zy zA rfl (fp rfl (by simp [f]) hJ) rfl (by decide) (by decide) (by decide)) rfl ?_; clear d
 rintro _ _ ⟨l, rfl, rfl⟩
 refine ⟨aT, fun d => ?_⟩
 refine bQ 19 (eE (sz := 21) (by_ := 96) (info := Tryz.t300) pA (by kernel_rfl) rfl rfl rfl rfl (by decide) rfl rfl en (by simp [f]) (by simp [fi, wV, Value.oneCell']) (by simp only [maxLen]; omega) (by omega)) ?_; clear d
 rintro _ _ ⟨h, i, rfl, rfl⟩
 refine ⟨aT, fun d => ?_⟩
 refine aj 20 2 d ?_
 refine cm 22 (iU (by exact rfl : (lQ z g (.slice a g.es.length c)).set 41 (.slice h (g.es.length + 1) i) = lQ z g (.slice h (g.es.length + 1) i))) fun d => ?_
 refine hQ ?_
 refine bU (.inr rfl) .nil ?_
 rw [pW, Qad (by omega)]
 exact ⟨_, ⟨rfl, rfl⟩, iy (g := { g with es := g.es ++ [⟨k, ck, x, y, w, g.c.rl⟩] }) (by simp [j]) (by simp)⟩
 skip
 refine nU rfl rfl (iA pA zy zA rfl (fp rfl (by simp [f]) hJ) rfl (by decide) (by decide) (by decide)) rfl ?_; clear d
 rintro _ _ ⟨l, rfl, rfl⟩
 refine ⟨aT, fun d => ?_⟩
 refine bY 4 (dP (aE (aI rfl))) fun d => ?_
 refine bQ 19 (eE (sz := 21) (by_ := 96) (info := Tryz.t300) pA (by kernel_rfl) rfl rfl rfl rfl (by decide) rfl rfl en (by simp [f]) (by simp [fi, wV, Value.oneCell']) (by simp only [maxLen]; omega) (by omega)) ?_; clear d
 rintro _ _ ⟨h, i, rfl, rfl⟩
 refine ⟨aT, fun d => ?_⟩
 refine aj 20 2 d ?_
 refine cm 22 (iU (by exact rfl : (lQ z g (.slice a g.es.length c)).set 41 (.slice h (g.es.length + 1) i) = lQ z g (.slice h (g.es.length + 1) i))) fun d => ?_
 refine aJ ?_
 refine bU (.inr rfl) .nil ?_
 rw [pW, Qad (by omega)]
 exact ⟨_, ⟨rfl, rfl⟩, iy (g := { g with es := g.es ++ [⟨k, ck, x, y, w, g.c.rl⟩] }) (by simp [j]) (by simp)⟩
 refine aw ?_
 refine bU (.inr rfl) .nil ?_
 rw [pW, Qaa (by omega)]
 exact ⟨_, ⟨rfl, rfl⟩, iy rfl rfl⟩
abbrev BW (b : Nat) (z : Rz) (g : Gu) (R : List HP) : List HP := dZ b (z, g) :: pt z.r (dB g.c.rl g.c.pc) :: pt z.c (dT g.c.cs z.i) :: R
theorem yY (d : CpOk g.c) (h : g.clock < 1000000000) cause tval (l : cause < 4294967296) (m : tval < 4294967296) : sQ W0 145 [pV b, wV cause, wV tval] (BW b z g R) (iQ (fI g cause tval).1) (BW b z (fI g cause tval).2 R) := by
 obtain ⟨n, e⟩ : ∃ t, (d9 g.c.cs 1 != 0) = t := ⟨_, rfl⟩
 have j : d9 g.c.cs 1 = 0 ↔ n = false := by rw [← e]; simp
 rw [fI]
 refine am func145 ntmps145 ?_
 refine aa (aE (nN fun _ => rfl)) ?_
 refine aa (aE (aI (oz d.r.len))) ?_
 refine aa (aE (nN fun _ => rfl)) ?_
 refine ah (ap call221 (Mp z.c d.cs)) ?_
 rw [e]
 refine ai (fun k => ?_) fun k => ?_
 rw [Qad (j.2 (by simpa using k))]
 refine oD (b := b) fun a c => ?_
 refine aw ?_
 refine ar (iU (by exact rfl : (lQ z g (.slice a g.es.length c)).set 43 (.bool true) = lQ z (gY g) (.slice a g.es.length c))) ?_
 refine eK (B := dZ b (z, gY g) :: pt z.r (dB g.c.rl g.c.pc) :: pt z.c (dT g.c.cs z.i) :: R) (iy rfl rfl) ?_
 refine aw ?_
 refine ah (ap sB (uZ W0 _ b z (gY g) h)) ?_
 refine ah (cv wY (v5 W0 _ b z (gY g) d.r.len 6 ((dS g.clock : Nat) : Int) cause tval g.c.pc)) ?_
 exact ac ao
 rw [Qaa (fun q => by have := j.1 q; simp_all)]
 refine oD (b := b) fun a c => ?_
 refine bz [b] 15 fun f => ?_
 refine aj 0 11 f ?_
 refine bY 11 (ap call217 (Mq z.c g.c.pc cause tval d.cs d.pc l m)) fun f => ?_
 refine aj 12 2 f ?_
 refine cm 14 (dt (by rw [r9 d.r.len]; decide) (tJ d.r.len)) fun f => ?_
 refine aJ ?_
 refine eK (B := dZ b (z, uQ g cause tval) :: pt z.r (dB g.c.rl (d9 g.c.cs 1)) :: pt z.c (dT (m4 g.c.cs g.c.pc cause tval) z.i) :: R) (iy rfl rfl) ?_
 refine aw ?_
 refine ah (ap sB (uZ W0 _ b z (uQ g cause tval) h)) ?_
 refine ah (cv wY (v5 W0 _ b z (uQ g cause tval) d.r.len 1 ((dS g.clock : Nat) : Int) cause tval g.c.pc)) ?_
 exact ac ao
end
abbrev BX (b : Nat) (z : Rz) (g : Gu) (d : Nat) (fr : List aD) (pg : List Pl) (R : List HP) : List HP := BW b z g (iF z.v z.ps z.pm d fr pg R)
section
variable (W0 : World) (R : List HP) (b : Nat) (z : Rz) (g : Gu) (d : Nat) (fr : List aD) (pg : List Pl)
theorem a5y (h : Pgs pg) (hF : cz fr) (hc : CpOk g.c) (hk : g.clock < 1000000000) e (he : EfOk e) (hx : e.k = 2) : sQ W0 148 [pV b, .agg (cK e).toArray] (BX b z g d fr pg R) (iQ (pr g fr pg e).1) (BX b z (pr g fr pg e).2 d (wE g fr pg e.addr e.width e.val) pg R) := by
 obtain ⟨F, m⟩ : ∃ F, pp g fr pg e.addr e.width 2 = F := ⟨_, rfl⟩
 obtain ⟨n, j⟩ : ∃ f, wE g fr pg e.addr e.width e.val = f := ⟨_, rfl⟩
 rw [pr, m, j]
 refine am func148 ntmps148 ?_
 refine bB fun o => ?_
 refine aa (aE (nN fun _ => rfl)) ?_
 refine ah (ap GP (BK z.c hc.cs)) ?_
 refine bu fun s => ?_
 refine ar aA ?_
 refine aC rfl (fun t => ?_) fun t => ?_
 refine au 1 ?_
 refine oD (b := b) fun a c => ?_
 refine bz [b, o, s] 13 fun l => ?_
 refine aj 0 11 l ?_
 refine bQ 11 (cN call231 (a3c z.v z.ps z.pm d fr pg h hF (i6 g.c.cs) (gH g.c.cs) (!dR g.c.cs) e.addr he.addr e.width e.val he.val)) ?_; clear l
 rintro _ u ⟨rfl, p⟩
 obtain rfl := p.symm
 rw [show lL fr pg (i6 g.c.cs) (gH g.c.cs) (!dR g.c.cs) e.addr e.width 2 = F from m, show lM fr pg (i6 g.c.cs) (gH g.c.cs) (!dR g.c.cs) e.addr e.width e.val = n from j]
 refine ⟨aT, fun l => ?_⟩
 refine aj 12 1 l ?_
 refine aJ ?_
 refine eK (B := dZ b (z, dG g) :: pt z.r (dB g.c.rl g.c.pc) :: pt z.c (dT g.c.cs z.i) :: pt o (ag (cK e) 267) :: iF z.v z.ps z.pm d n pg R) (iy (g := dG g) rfl rfl) ?_
 refine aw ?_
 refine ai (fun q => ?_) fun q => ?_
 refine aa (bG (d8 F)) ?_
 refine aa (qg rfl rfl (d8 _)) ?_
 refine aa (dh rfl rfl (d8 _)) ?_
 refine ah (cN CG (yY W0 _ b z (dG g) hc hk (qZ 5 F) e.addr (dJ _) he.addr)) ?_
 refine ac ?_
 rw [Qad q]
 exact ao
 refine oD (b := b) (z := z) (g := dG g) fun a c => ?_
 refine bz [b, o] 9 fun l => ?_
 refine aj 0 8 l ?_
 refine cm 8 (dt (by rw [r9 hc.r.len]; decide) (tJ hc.r.len)) fun l => ?_
 refine aJ ?_
 refine ac ?_
 rw [Qaa q]
 exact ⟨_, ⟨rfl, rfl⟩, iy (g := mV (dG g) e.pc) rfl rfl⟩
 omega
theorem a5z (h : Pgs pg) (hF : cz fr) (hc : CpOk g.c) (hk : g.clock < 1000000000) e (he : EfOk e) (hx : e.k = 1) : sQ W0 148 [pV b, .agg (cK e).toArray] (BX b z g d fr pg R) (iQ (pq g fr pg e).1) (BX b z (pq g fr pg e).2 d fr pg R) := by
 obtain ⟨F, n⟩ : ∃ F, pp g fr pg e.addr e.width 1 = F := ⟨_, rfl⟩
 obtain ⟨w, j⟩ : ∃ w, pn g fr pg e.addr e.width 1 = w := ⟨_, rfl⟩
 have s : w < 4294967296 := by rw [← j]; exact uR hF
 have o : gK (e.d : Int) = true := by have := he.d; simp only [gK, Qak]; omega
 rw [pq, n, j]
 refine am func148 ntmps148 ?_
 refine bB fun m => ?_
 refine aa (aE (nN fun _ => rfl)) ?_
 refine ah (ap GP (BK z.c hc.cs)) ?_
 refine bu fun t => ?_
 refine ar aA ?_
 refine aC rfl (fun u => ?_) fun u => ?_
 omega
 refine aw ?_
 refine oD (b := b) fun a c => ?_
 refine bz [b, m, t] 15 fun f => ?_
 refine aj 0 9 f ?_
 refine bQ 9 (cN call143 (Lz z.v z.ps z.pm d fr pg h hF (i6 g.c.cs) (gH g.c.cs) (!dR g.c.cs) e.addr he.addr e.width 1)) ?_; clear f
 rintro _ x ⟨rfl, l⟩
 obtain rfl := l.symm
 rw [show lL fr pg (i6 g.c.cs) (gH g.c.cs) (!dR g.c.cs) e.addr e.width 1 = F from n, show pj fr pg (i6 g.c.cs) (gH g.c.cs) (!dR g.c.cs) e.addr e.width 1 = w from j]
 refine ⟨aT, fun f => ?_⟩
 refine aj 10 5 f ?_
 refine aJ ?_
 refine eK (B := dZ b (z, dG g) :: pt z.r (dB g.c.rl g.c.pc) :: pt z.c (dT g.c.cs z.i) :: pt m (ag (cK e) 267) :: iF z.v z.ps z.pm d fr pg R) (iy (g := dG g) rfl rfl) ?_
 refine aw ?_
 refine aC rfl (fun p => ?_) fun p => ?_
 refine au 4 ?_
 refine aa (bG (d8 F)) ?_
 refine aa (qg rfl rfl (d8 _)) ?_
 refine aa (dh rfl rfl (d8 _)) ?_
 refine ah (cN CG (yY W0 _ b z (dG g) hc hk (qZ 4 F) e.addr (dJ _) he.addr)) ?_
 refine ac ?_
 rw [Qad p]
 exact ao
 refine au 2 ?_
 refine cy (fun _ : Unit => True) (fun _ => [(0, pV b), (3, pV m), (7, wV (if e.signed then oy w e.width else w))]) (fun _ => dZ b (z, dG g) :: pt z.r (dB g.c.rl g.c.pc) :: pt z.c (dT g.c.cs z.i) :: pt m (ag (cK e) 267) :: iF z.v z.ps z.pm d fr pg R) ?_ ?_
 refine au 6 ?_
 refine ai (fun q => ?_) fun q => ?_
 refine ah (aB call232 (a5x w s e.width)) ?_
 refine df () ?_ ?_ ?_
 trivial
 · rw [Qad q]
   repeat (first | exact bK | refine aZ rfl ?_)
 exact IO
 refine df () ?_ ?_ ?_
 trivial
 · rw [Qaa q]
   repeat (first | exact bK | refine aZ rfl ?_)
 exact IO
 intro _ _
 rw [Qaa p]
 obtain ⟨y, A⟩ : ∃ y, (if e.signed then oy w e.width else w) = y := ⟨_, rfl⟩
 rw [A]
 refine oD (b := b) (z := z) (g := dG g) fun a c => ?_
 refine bz [b, m] 8 fun f => ?_
 refine aj 0 7 f ?_
 refine bQ 7 (ap zH (wI z.r y e.d hc.r.len)) ?_; clear f
 rintro _ x ⟨rfl, l⟩
 obtain rfl := l.symm
 rw [Qad o, Qad o, Qaf]
 refine ⟨aT, fun f => ?_⟩
 refine aJ ?_
 refine bz [b, m] 9 fun f => ?_
 refine aj 0 8 f ?_
 refine cm 8 (dt (by rw [r9 (by unfold j8; split <;> simp [hc.r.len])]; decide) (tJ (by unfold j8; split <;> simp [hc.r.len]))) fun f => ?_
 refine aJ ?_
 refine ac ?_
 exact ⟨_, ⟨rfl, rfl⟩, iy (g := Fo (dG g) e.d y e.pc) rfl rfl⟩
end
end
section
structure LRel (ls : List Li) (now : Int) (L : List Nat) : Prop where
  ok : VOk ls now
  m : ∀ n, (ls.getD n default).m = false
  p : ∀ n, (ls.getD n default).p = 0
  mem : ∀ n, n ∈ L ↔ n < 8 ∧ (ls.getD n default).w = true
  inc : L.Pairwise fun a b => (ls.getD a default).s < (ls.getD b default).s
theorem yZ n : (List.replicate 8 (default : Li)).getD n default = default := by
 simp only [Qas, List.getElem?_replicate]
 split <;> rfl
theorem LRel.new : LRel (List.replicate 8 default) 0 [] := by
 refine ⟨⟨rfl, QbR _, fun n _ => by rw [yZ]; decide, fun n k _ _ _ h => by rw [yZ] at h; cases h⟩, fun n => by rw [yZ]; rfl, fun n => by rw [yZ]; rfl, fun n => ?_, List.Pairwise.nil⟩
 rw [yZ]
 exact ⟨fun h => (Qcj h).elim, fun h => by cases h.2⟩
section
variable {ls : List Li} {now : Int} {L : List Nat}
theorem LRel.lt (h : LRel ls now L) : ∀ x ∈ L, x < 8 := fun x a => ((h.mem x).1 a).1
theorem LRel.nd (h : LRel ls now L) : L.Nodup := h.inc.imp fun {a b} q e => by subst e; omega
theorem ML : ∀ (n : Nat) (l : List Nat), l.Nodup → (∀ x ∈ l, x < n) → l.length ≤ n
 | 0, l, _, h => by
  rcases l with _ | ⟨a, l⟩
  exact Qam _
  have := h a (Qbi ..); omega
 | n + 1, l, b, h => by
  have c := ML n (l.erase n) (b.erase n) fun x d => by
   have := (b.mem_erase_iff).1 d
   have := h x this.2
   omega
  rw [List.length_erase] at c
  split at c <;> omega
theorem LRel.few (h : LRel ls now L) : L.length ≤ 8 := ML 8 L h.nd h.lt
theorem LRel.best (h : LRel ls now L) : jJ ls = L.head? := by
 rcases L with _ | ⟨a, t⟩
 unfold jJ
 rw [List.head?_nil, QbX]
 intro n g c
 simp only [tD, ju, Qan] at c
 exact absurd ((h.mem n).2 ⟨by simpa using g, c.1.1⟩) Qcj
 have d := (h.mem a).1 (Qbi ..)
 refine LO h.ok d.1 (by rw [ju, d.2, h.m]; rfl) fun k i f => ?_
 simp only [ju, Qan] at f
 have b := (h.mem k).2 ⟨i, f.1⟩
 unfold qY
 rw [h.p, h.p]
 rcases QaO.1 b with e | e
 subst e; exact QbR _
 have := (Qbh.1 h.inc).1 k e
 omega
theorem MM {n : Nat} : oA L n = true ↔ n ∈ L := by
 unfold oA
 rw [Qbo]
 exact ⟨fun ⟨x, a, e⟩ => by
  have : x = n := by have := QaZ.1 e; omega
  exact this ▸ a, fun a => ⟨n, a, by simp⟩⟩
theorem LRel.raise (h : LRel ls now L) (g : now < 1000000) {n} (o : n < 8) : LRel (me ls now n) (k8 ls now n) (nM L n) := by
 have r : gx (n : Int) = true := by rw [gx, Qak]; omega
 have u := h.ok.nn
 have i : 0 ≤ now + 1 ∧ now + 1 < 10000000000000000000 := by omega
 rw [me, k8, nM, r, Qbe]
 by_cases q : (ls.getD n default).w = true
 rw [MM.2 ((h.mem n).2 ⟨o, q⟩), dif_neg (fun c => by rw [q] at c; cases c.1), Qaa (fun c => by rw [q] at c; cases c)]
 simpa using h
 have q : (ls.getD n default).w = false := by simpa using q
 have f : n ∉ L := fun c => by have := ((h.mem n).1 c).2; rw [q] at this; cases this
 have v : oA L (n : Int) = false := by
  cases e : oA L (n : Int) with
  | false => rfl
  | true => exact absurd (MM.1 e) f
 rw [v, dif_pos ⟨q, i⟩, Qad q]
 have d : ∀ k, k ≠ n → (ls.set n ⟨true, (ls.getD n default).m, (ls.getD n default).p, now + 1, i⟩).getD k default = ls.getD k default := fun k s => uO s
 have j : (ls.set n ⟨true, (ls.getD n default).m, (ls.getD n default).p, now + 1, i⟩).getD n default = ⟨true, (ls.getD n default).m, (ls.getD n default).p, now + 1, i⟩ := wD (by rw [h.ok.len]; exact o)
 have t : ∀ k ∈ L, k ≠ n := fun k s e => f (e ▸ s)
 refine ⟨h.ok.set (by omega) (QbR _) (fun _ => .inl (by show now < now + 1; omega)), fun k => ?_, fun k => ?_, fun k => ?_, ?_⟩
 by_cases e : k = n
 subst e; rw [j]; exact h.m k
 rw [d k e]; exact h.m k
 by_cases e : k = n
 subst e; rw [j]; exact h.p k
 rw [d k e]; exact h.p k
 simp only [Bool.not_false, QbL, Qaf, QaS, Qbg]
 by_cases e : k = n
 subst e; rw [j]; simp [o]
 rw [d k e, ← h.mem k]; simp [e]
 simp only [Bool.not_false, QbL, Qaf]
 rw [List.pairwise_append]
 refine ⟨List.Pairwise.imp_of_mem (fun {a b} l g q => ?_) h.inc, List.pairwise_singleton _ _, fun a l b g => ?_⟩
 rw [d a (t a l), d b (t b g)]; exact q
 obtain rfl := Qbg.1 g
 rw [d a (t a l), j]
 have := h.ok.le a (h.lt a l)
 show _ < now + 1
 omega
theorem LRel.took (h : LRel ls now L) : LRel (mf ls) now (sf L) := by
 unfold mf
 rw [h.best]
 rcases L with _ | ⟨a, t⟩
 exact h
 have i := (h.mem a).1 (Qbi ..)
 have b := Qbx.1 h.nd
 have l : sf (a :: t) = t := by
  rw [sf, Qaa (List.cons_ne_nil _ _), ik]
  show (a :: t).filter (fun x => ((x : Nat) : Int) != ((a : Nat) : Int)) = t
  rw [List.filter_cons_of_neg (by simp)]
  refine QaT.2 fun x d => QbN.2 fun e => ?_
  have : x = a := by omega
  exact b.1 (this ▸ d)
 rw [l]
 show LRel (s7 ls a) now t
 have c : ∀ k, k ≠ a → (s7 ls a).getD k default = ls.getD k default := fun k f => uO f
 have g : (s7 ls a).getD a default = ⟨false, (ls.getD a default).m, (ls.getD a default).p, (ls.getD a default).s, (ls.getD a default).hs⟩ := wD (by rw [h.ok.len]; exact i.1)
 have j : ∀ k ∈ t, k ≠ a := fun k f e => b.1 (e ▸ f)
 refine ⟨h.ok.set (QbR _) (h.ok.le a i.1) (fun q => by cases q), fun k => ?_, fun k => ?_, fun k => ?_, ?_⟩
 by_cases e : k = a
 subst e; rw [g]; exact h.m k
 rw [c k e]; exact h.m k
 by_cases e : k = a
 subst e; rw [g]; exact h.p k
 rw [c k e]; exact h.p k
 by_cases e : k = a
 subst e; rw [g]; simp [b.1]
 rw [c k e, ← h.mem k]; simp [e]
 refine List.Pairwise.imp_of_mem (fun {x y} d n q => ?_) (Qbh.1 h.inc).2
 rw [c x (j x d), c y (j y n)]; exact q
end
structure TRel (x : Tm) (T : List (Int × Int)) : Prop where
  eq : T = x.ti.map fun y => (y.i, y.d)
  len : x.us.length = 4
  us : ∀ k : Nat, k < 4 → (x.us.getD k false = true ↔ ∃ y ∈ x.ti, y.i = (k : Int))
  nd : (x.ti.map (·.i)).Nodup
  id : ∀ y ∈ x.ti, 0 ≤ y.i ∧ y.i < 4
  nn : 0 ≤ x.now
theorem FM : ∀ (n : Nat) (l : List Int), l.Nodup → (∀ x ∈ l, 0 ≤ x ∧ x < n) → l.length ≤ n
 | 0, l, _, h => by
  rcases l with _ | ⟨a, l⟩
  exact Qam _
  have := h a (Qbi ..); omega
 | n + 1, l, b, h => by
  have c := FM n (l.erase (n : Int)) (b.erase _) fun x d => by
   have := (b.mem_erase_iff).1 d
   have := h x this.2
   omega
  rw [List.length_erase] at c
  split at c <;> omega
theorem MN : ∀ {l : List TIt}, (l.map (·.i)).Nodup → ∀ y ∈ l, ∀ z ∈ l, y.i = z.i → y = z
 | [], _, y, d, _, _, _ => (Qcj d).elim
 | a :: l, h, y, d, z, g, e => by
  rw [QaM, Qbx] at h
  rcases QaO.1 d with b | b <;> rcases QaO.1 g with c | c
  rw [b, c]
  subst b; exact absurd (by rw [e]; exact QbP (f := fun y : TIt => y.i) c) h.1
  subst c; exact absurd (by rw [← e]; exact QbP (f := fun y : TIt => y.i) b) h.1
  exact MN h.2 y b z c e
section
variable {x : Tm} {T : List (Int × Int)}
theorem TRel.new : TRel ⟨[false, false, false, false], 0, []⟩ [] := ⟨rfl, rfl, (fun k a => by
 have : k = 0 ∨ k = 1 ∨ k = 2 ∨ k = 3 := by omega
 rcases this with rfl | rfl | rfl | rfl <;> exact ⟨(fun h => by cases h), (fun q => by obtain ⟨_, h, _⟩ := q; cases h)⟩), QcZ, (fun _ h => (Qcj h).elim), QbR _⟩
theorem TRel.ids (h : TRel x T) : T.map (·.1) = x.ti.map (·.i) := by rw [h.eq, List.map_map]; rfl
theorem TRel.ndT (h : TRel x T) : (T.map (·.1)).Nodup := by rw [h.ids]; exact h.nd
theorem TRel.lenT (h : TRel x T) : T.length = x.ti.length := by rw [h.eq, Qay]
theorem TRel.few (h : TRel x T) : T.length ≤ 4 := by
 have := FM 4 _ h.nd (fun i a => by
  obtain ⟨y, b, rfl⟩ := QaX.1 a
  exact h.id y b)
 rw [Qay] at this
 rw [h.lenT]; exact this
theorem TRel.has (h : TRel x T) {k : Nat} (b : k < 4) : jh T k = x.us.getD k false := by
 rw [Qag, h.us k b, h.eq]
 unfold jh
 rw [List.any_map, Qbo]
 exact ⟨fun ⟨y, a, e⟩ => ⟨y, a, QaZ.1 e⟩, fun ⟨y, a, e⟩ => ⟨y, a, QaZ.2 e⟩⟩
theorem TRel.full (h : TRel x T) (t : 4 ≤ T.length) : kY x.us = none := by
 have f : ∀ k : Nat, k < 4 → x.us.getD k false = true := fun k r => by
  cases q : x.us.getD k false with
  | true => rfl
  | false =>
   have g : ((k : Int)) ∉ x.ti.map (·.i) := fun c => by
    obtain ⟨y, j, e⟩ := QaX.1 c
    rw [(h.us k r).2 ⟨y, j, e⟩] at q; cases q
   have := FM 4 ((k : Int) :: x.ti.map (·.i)) (Qbx.2 ⟨g, h.nd⟩) (fun i l => by
    rcases QaO.1 l with rfl | l
    omega
    obtain ⟨y, j, rfl⟩ := QaX.1 l
    exact h.id y j)
   rw [QaK, Qay, ← h.lenT] at this
   omega
 obtain ⟨a, b, c, d, e⟩ : ∃ a b c d, x.us = [a, b, c, d] := by
  have s := h.len
  match h2 : x.us, s with
  | [a, b, c, d], _ => exact ⟨a, b, c, d, rfl⟩
 have m := f 0 (by decide)
 have n := f 1 (by decide)
 have o := f 2 (by decide)
 have p := f 3 (by decide)
 rw [e] at m n o p ⊢
 simp at m n o p
 subst m; subst n; subst o; subst p
 rfl
theorem TRel.free (h : TRel x T) (h4 : T.length < 4) : ∃ k, k < 4 ∧ kY x.us = some k ∧ BR T = k ∧ jh T k = false := by
 have hex : ∃ k : Nat, k < 4 ∧ jh T (k : Int) = false ∧ ∀ j : Nat, j < k → jh T (j : Int) = true := by
  cases q0 : jh T ((0 : Nat) : Int) with
  | false => exact ⟨0, by decide, q0, fun j hj => absurd hj (QbE j)⟩
  | true =>
  cases q1 : jh T ((1 : Nat) : Int) with
  | false => exact ⟨1, by decide, q1, fun j hj => by obtain rfl : j = 0 := by omega
                                                     exact q0⟩
  | true =>
  cases q2 : jh T ((2 : Nat) : Int) with
  | false => exact ⟨2, by decide, q2, fun j hj => by rcases (by omega : j = 0 ∨ j = 1) with rfl | rfl <;> assumption⟩
  | true =>
  cases q3 : jh T ((3 : Nat) : Int) with
  | false => exact ⟨3, by decide, q3, fun j hj => by rcases (by omega : j = 0 ∨ j = 1 ∨ j = 2) with rfl | rfl | rfl <;> assumption⟩
  | true => exact (FD h4 fun k hk => by rcases (by omega : k = 0 ∨ k = 1 ∨ k = 2 ∨ k = 3) with rfl | rfl | rfl | rfl <;> assumption).elim
 obtain ⟨k, hk, hno, hall⟩ := hex
 refine ⟨k, hk, LZ (by rw [h.len]; exact hk) (fun j hj => ?_) ?_, FE hno 4 0 (QaG _) (by omega) fun j _ q => hall j q, hno⟩
 rw [← h.has (by omega)]; exact hall j hj
 rw [← h.has hk]; exact hno
theorem TRel.armE (h : TRel x T) d : yK x d = uW T d := by
 rw [yK, uW]
 split
 rfl
 by_cases a : 4 ≤ T.length
 rw [Qad a, Qad (h.full a)]
 obtain ⟨k, _, e, _⟩ := h.free (by omega)
 rw [Qaa a, e, Qaa (by simp)]
theorem TRel.armI (h : TRel x T) d : yL x d = uX T d := by
 rw [yL, uX]
 split
 rfl
 by_cases a : 4 ≤ T.length
 rw [Qad a, h.full a]; rfl
 obtain ⟨k, _, e, b, _⟩ := h.free (by omega)
 rw [Qaa a, e, b]; rfl
theorem TRel.arm (h : TRel x T) d (w : x.now < 1000000) : TRel (tE x d) (uY T d) := by
 have r := h.nn
 rw [tE, uY]
 by_cases p : d < 0
 rw [dif_neg (by omega), Qad p]; exact h
 rw [dif_pos (by omega), Qaa p]
 by_cases g : 4 ≤ T.length
 rw [Qad g, h.full g]; exact h
 obtain ⟨k, l, e, s, m⟩ := h.free (by omega)
 rw [Qaa g, e, s]
 have n : ∀ y ∈ x.ti, y.i ≠ (k : Int) := fun y f c => by
  have := (h.us k l).2 ⟨y, f, c⟩
  rw [← h.has l, m] at this; cases this
 refine ⟨by rw [h.eq]; simp, by rw [Qap]; exact h.len, fun j t => ?_, ?_, fun y f => ?_, by show 0 ≤ x.now + 1; omega⟩
 by_cases c : j = k
 subst c
 refine ⟨fun _ => ⟨_, List.mem_append_right _ (Qbg.2 rfl), rfl⟩, fun _ => ?_⟩
 simp [List.getD, h.len, l]
 have u : (x.us.set k true).getD j false = x.us.getD j false := by
  simp only [Qas]
  rw [QaW (fun q => c q.symm)]
 show (x.us.set k true).getD j false = true ↔ _
 rw [u, h.us j t]
 refine ⟨fun ⟨y, f, q⟩ => ⟨y, List.mem_append_left _ f, q⟩, fun ⟨y, f, q⟩ => ?_⟩
 rcases QaS.1 f with f | f
 exact ⟨y, f, q⟩
 obtain rfl := Qbg.1 f
 exact absurd q (by show ((k : Int)) ≠ j; omega)
 show (((x.ti ++ [_]) : List TIt).map fun y => y.i).Nodup
 rw [QaH, Qbp]
 refine ⟨h.nd, by simp, fun a v b o => ?_⟩
 obtain ⟨y, f, rfl⟩ := QaX.1 v
 have o : b = (k : Int) := by simpa using o
 rw [o]; exact n y f
 rcases QaS.1 f with f | f
 exact h.id y f
 obtain rfl := Qbg.1 f
 show 0 ≤ ((k : Int)) ∧ ((k : Int)) < 4
 omega
theorem TRel.fireN (h : TRel x T) now : mT x now = mX T now := by
 rw [mT, mX, h.eq, List.filter_map, Qay]
 rfl
theorem TRel.fire (h : TRel x T) now : TRel (tG x now) (pY T now) := by
 refine ⟨by rw [pY, h.eq, List.filter_map]; rfl, by show (jd _ _).length = 4; rw [tF]; exact h.len, fun k g => ?_, ?_, fun y a => h.id y (QaD.1 a).1, h.nn⟩
 have d : k < x.us.length := by rw [h.len]; exact g
 have j : (jd x.us (x.ti.filter (kZ now))).getD k false = (x.us.getD k false && !((x.ti.filter (kZ now)).any fun z => z.i == (k : Int))) := by
  have := Fl x.us (x.ti.filter (kZ now)) k d
  simp only [Qas]
  rw [QaV (by rw [tF]; exact d), QaV d]
  simpa using this
 show (jd x.us (x.ti.filter (kZ now))).getD k false = true ↔ ∃ y ∈ x.ti.filter fun y => !kZ now y, y.i = (k : Int)
 rw [j, Qan, h.us k g, Bool.not_eq_true', Qcv]
 constructor
 rintro ⟨⟨y, a, e⟩, f⟩
 refine ⟨y, QaD.2 ⟨a, ?_⟩, e⟩
 cases q : kZ now y with
 | false => rfl
 | true => exact absurd (QaZ.2 e) (f y (QaD.2 ⟨a, q⟩))
 rintro ⟨y, a, e⟩
 have a := QaD.1 a
 refine ⟨⟨y, a.1, e⟩, fun z b c => ?_⟩
 have b := QaD.1 b
 have := MN h.nd y a.1 z b.1 (e.trans (QaZ.1 c).symm)
 subst this
 rw [b.2] at a
 exact absurd a.2 (by decide)
 exact (QcB _ QbA).nodup h.nd
end
end
section
open Go.RowKit
abbrev BY (b : Nat) (z : Rz) (g : Gu) (L : List Nat) (T : List (Int × Int)) (R : List HP) : List HP := BW b z g (g7 z.vic L :: eT z.tim T :: R)
section
variable (W0 : World) (R : List HP) (b : Nat) (z : Rz) (g : Gu) (L : List Nat) (T : List (Int × Int))
theorem a5A (D : CpOk g.c) (hk : g.clock < 1000000000) (W : LRel g.ls g.ln L) (X : g.ln < 1000000) (Q : TRel g.tm T) : sP W0 142 [pV b] (BY b z g L T R) (fun v B => ∃ L' T', v = .bool (fJ (iM g)).1 ∧ B = BY b z (fJ (iM g)).2 L' T' R ∧ LRel (fJ (iM g)).2.ls (fJ (iM g)).2.ln L' ∧ TRel (fJ (iM g)).2.tm T') := by
 obtain ⟨ob, H⟩ : ∃ b, od g.c.cs = b := ⟨_, rfl⟩
 obtain ⟨K, Y⟩ : ∃ K, mT g.tm ((dS g.clock : Nat) : Int) = K := ⟨_, rfl⟩
 have hF : mX T ((dS g.clock : Nat) : Int) = K := by rw [← Q.fireN, Y]
 have j := Q.fire ((dS g.clock : Nat) : Int)
 obtain ⟨E, I⟩ : ∃ E, pY T ((dS g.clock : Nat) : Int) = E := ⟨_, rfl⟩
 rw [I] at j
 have x2 := W.few
 have Z := W.raise X (n := 7) (by decide)
 obtain ⟨q, p⟩ : ∃ q, iM g = q := ⟨_, rfl⟩
 have F : q.c = g.c := by rw [← p]
 have J : q.halted = g.halted := by rw [← p]
 have M : q.es = g.es := by rw [← p]
 have N : q.clock = g.clock := by rw [← p]
 have O : q.tm = tG g.tm ((dS g.clock : Nat) : Int) := by rw [← p]
 rw [p, fJ, F, H]
 refine lG func142 ntmps142 rfl rfl ?_
 refine aO (aY (ae rfl (bC rfl) (aL (aH ?_))))
 refine cy (fun h : List Nat => LRel q.ls q.ln h) (fun _ => [(0, pV b)]) (fun h => dZ b (z, g) :: pt z.r (dB g.c.rl g.c.pc) :: pt z.c (dT g.c.cs z.i) :: g7 z.vic h :: eT z.tim E :: R) ?_ ?_
 refine aO ?_
 refine oD (b := b) fun a c => ?_
 refine bz [b] 9 fun e => ?_
 refine dr 0 rfl rfl rfl e (aM rfl) ?_
 refine dr 1 rfl rfl rfl e (kL rfl) ?_
 refine dr 2 rfl rfl rfl e (d5 rfl so rfl Ng rfl (by first | exact Qac _ | rfl)) ?_
 refine dr 3 rfl rfl rfl e (co isAgg124 rfl (dq (k := 0) rfl rfl)) ?_
 refine dr 4 rfl rfl rfl e (aM rfl) ?_
 refine bY 5 (ap sB (BV W0 _ b z g _ hk)) fun e => ?_
 refine bQ 6 (ap call214 (a5b z.tim T Q.few Q.ndT ((dS g.clock : Nat) : Int))) ?_; clear e
 rintro _ B_ ⟨fa, fc, rfl, o⟩
 obtain rfl := o.symm
 rw [hF, I]
 refine ⟨aT, fun e => ?_⟩
 refine aj 7 2 e ?_
 refine aJ ?_
 refine aC rfl (fun c1 => ?_) fun c1 => ?_
 refine aY ?_
 refine ae rfl (aM rfl) (ae rfl (kL rfl) ?_)
 refine ae rfl (d5 rfl so rfl FY rfl (by first | exact Qac _ | rfl)) ?_
 refine ae rfl (co N4 rfl (aI rfl)) ?_
 refine aF rfl (ir call43 rfl (Mv z.vic L (by omega) 7)) ?_
 rintro _ B_ ⟨rfl, o⟩
 obtain rfl := o.symm
 refine aL (aH ?_)
 refine bq (nM L 7) ?_ (he := ?_)
 rw [← p]
 show LRel (if mT g.tm ((dS g.clock : Nat) : Int) = 0 then g.ls else me g.ls g.ln 7) (if mT g.tm ((dS g.clock : Nat) : Int) = 0 then g.ln else k8 g.ls g.ln 7) (nM L 7)
 rw [Y, Qaa (by omega), Qaa (by omega)]
 exact Z
 exact iy rfl rfl
 refine aw ?_
 refine bq L ?_ (he := ?_)
 rw [← p]
 show LRel (if mT g.tm ((dS g.clock : Nat) : Int) = 0 then g.ls else me g.ls g.ln 7) (if mT g.tm ((dS g.clock : Nat) : Int) = 0 then g.ln else k8 g.ls g.ln 7) L
 rw [Y, Qad (by omega), Qad (by omega)]
 exact W
 exact iy rfl rfl
 intro h d
 clear p
 obtain ⟨qc, S, U, s, u, w, A, qh, C, x3, x4, f⟩ := q
 dsimp only at F J M N O d ⊢
 subst F; subst M; subst N; subst J
 rw [← O] at j
 have x0 := d.few
 have G := d.best
 refine oD (b := b) fun a c => ?_
 refine aw ?_
 refine ah (ap call215 (a4U z.c D.cs)) ?_
 rw [H]
 refine aC rfl (fun c3 => ?_) fun c3 => ?_
 refine au 7 ?_
 refine ac ?_
 rw [Qaa (by simpa using c3)]
 exact ⟨_, ⟨h, E, rfl, rfl, d, j⟩, iy rfl rfl⟩
 refine au 3 ?_
 rw [Qad (by simpa using c3)]
 refine aY (ae rfl (aM rfl) (ae rfl (kL rfl) ?_))
 refine ae rfl (d5 rfl so rfl FY rfl (by first | exact Qac _ | rfl)) ?_
 refine ae rfl (co N4 rfl (aI rfl)) ?_
 refine aF rfl (ir call216 rfl (a44 z.vic h (by omega) d.lt)) ?_
 rintro _ B_ ⟨rfl, o⟩
 obtain rfl := o.symm
 obtain ⟨m, hm⟩ : ∃ m, h.getD 0 0 = m := ⟨_, rfl⟩
 obtain ⟨y, P⟩ : ∃ y, decide (h ≠ []) = y := ⟨_, rfl⟩
 rw [hm, P, G]
 have x1 := d.took
 refine aw ?_
 refine aC rfl (fun V => ?_) fun V => ?_
 refine au 1 ?_
 obtain ⟨n, t, rfl⟩ : ∃ n t, h = n :: t := by
  rcases h with _ | ⟨x, l⟩
  rw [← P] at V; exact absurd V (by decide)
  exact ⟨x, l, rfl⟩
 obtain rfl : n = m := hm
 obtain rfl : y = true := by rw [← P]; exact Qai (List.cons_ne_nil n t)
 rw [List.head?_cons]
 dsimp only
 have x5 := d.lt n (Qbi ..)
 refine aw ?_
 refine aa (aE (aI (oz D.r.len))) ?_
 refine aa (bG (cZ (by omega))) ?_
 refine aa (dQ (256 + n)) ?_
 refine bz [b] 14 fun e => ?_
 refine aj 0 10 e ?_
 refine bY 10 (ap call217 (Mq z.c g.c.pc (256 + n) 0 D.cs D.pc (by omega) (by decide))) fun e => ?_
 refine aj 11 2 e ?_
 refine cm 13 (dt (by rw [r9 D.r.len]; decide) (tJ D.r.len)) fun e => ?_
 refine aJ ?_
 refine eK (B := dZ b (z, ⟨⟨g.c.rl, d9 g.c.cs 1, m4 g.c.cs g.c.pc (256 + n) 0⟩, S, U, s, mf u, w, A, g.halted, C, g.clock, g.es, f⟩) :: pt z.r (dB g.c.rl (d9 g.c.cs 1)) :: pt z.c (dT (m4 g.c.cs g.c.pc (256 + n) 0) z.i) :: g7 z.vic (sf (n :: t)) :: eT z.tim E :: R) (iy rfl rfl) ?_
 refine aw ?_
 refine ah (ap sB (uZ W0 _ b z ⟨⟨g.c.rl, d9 g.c.cs 1, m4 g.c.cs g.c.pc (256 + n) 0⟩, S, U, s, mf u, w, A, g.halted, C, g.clock, g.es, f⟩ hk)) ?_
 refine ah (cv wY (v5 W0 _ b z ⟨⟨g.c.rl, d9 g.c.cs 1, m4 g.c.cs g.c.pc (256 + n) 0⟩, S, U, s, mf u, w, A, g.halted, C, g.clock, g.es, f⟩ D.r.len 3 ((dS g.clock : Nat) : Int) (256 + n) 0 g.c.pc)) ?_
 refine ac ?_
 exact ⟨_, ⟨_, E, rfl, rfl, x1, j⟩, IO⟩
 refine aw ?_
 refine ac ?_
 obtain rfl : h = [] := by
  rcases h with _ | ⟨x, l⟩
  rfl
  exact absurd (by rw [← P]; exact Qai (List.cons_ne_nil x l)) V
 obtain rfl : y = false := by rw [← P]; rfl
 rw [List.head?_nil]
 dsimp only
 exact ⟨_, ⟨sf [], E, rfl, rfl, (by rw [sf, Qad rfl]; exact d), j⟩, iy (g := ⟨g.c, S, U, s, u, w, A, g.halted, C, g.clock, g.es, f⟩) rfl rfl⟩
end
theorem a5B {id k i x} (h : (jX id k i x).1.k = 5) : (jX id k i x).2.pc = x.pc := by
 unfold jX at h ⊢
 split at h <;> rename_i q
 rw [Qad q]
 rw [Qaa q]
 unfold gn at h ⊢
 repeat' split at h
 all_goals try (cases h; done)
 simp only [*, QbL, QcO]
 unfold kF at h ⊢
 repeat' split at h
 all_goals try (cases h; done)
 simp only [*, QbL, QcO]
theorem CpOk.int {g} (h : CpOk g.c) : CpOk (fJ g).2.c := by
 unfold fJ
 split
 cases q : jJ g.ls with
 | none => exact h
 | some n =>
  have := (yG q).1
  exact h.enter (by omega) (by decide)
 exact h
theorem a5C g : (fJ g).2.clock = g.clock := by
 unfold fJ
 split
 cases jJ g.ls <;> rfl
 rfl
abbrev MO (b : Nat) (z : Rz) (g : Gu) (L : List Nat) (T : List (Int × Int)) (d : Nat) (fr : List aD) (pg : List Pl) (R : List HP) : List HP := BY b z g L T (iF z.v z.ps z.pm d fr pg R)
section
variable (W0 : World) (R : List HP) (b : Nat) (z : Rz) (g : Gu) (L : List Nat) (T : List (Int × Int)) (d : Nat) (fr : List aD) (pg : List Pl)
theorem a5D (h : Pgs pg) (K : cz fr) (hc : CpOk g.c) (M : z.i < 4) (hk : g.clock < 999999) (hl : LRel g.ls g.ln L) (O : g.ln < 1000000) (ht : TRel g.tm T) : sP W0 62 [pV b] (MO b z g L T d fr pg R) (fun v B => ∃ L' T', v = iQ (eS z.i g fr pg).1.1 ∧ B = MO b z (eS z.i g fr pg).1.2 L' T' d (eS z.i g fr pg).2 pg R ∧ LRel (eS z.i g fr pg).1.2.ls (eS z.i g fr pg).1.2.ln L' ∧ TRel (eS z.i g fr pg).1.2.tm T') := by
 obtain ⟨q, N⟩ : ∃ q, fJ (iM (j0 g)) = q := ⟨_, rfl⟩
 have t : CpOk q.2.c := by rw [← N]; exact CpOk.int (g := iM (j0 g)) hc
 have x0 : q.2.clock = g.clock + 1 := by rw [← N, a5C]
 have e := Ft z.i q.2 fr pg
 obtain ⟨F, D⟩ : ∃ F, pp q.2 fr pg q.2.c.pc 4 0 = F := ⟨_, rfl⟩
 obtain ⟨w, C⟩ : ∃ w, pn q.2 fr pg q.2.c.pc 4 0 = w := ⟨_, rfl⟩
 have hw : w < 4294967296 := by rw [← C]; exact uR K
 obtain ⟨vb, A⟩ : ∃ b, gG (fq w) = b := ⟨_, rfl⟩
 have I := DG w
 obtain ⟨o, E⟩ : ∃ o, jX z.i (dS q.2.clock) (fq w) q.2.c = o := ⟨_, rfl⟩
 have l : EfOk o.1 ∧ CpOk o.2 := by rw [← E]; exact DO t I.2.1 M
 have G : o.1.k = 5 → o.2.pc = q.2.c.pc := by rw [← E]; exact a5B
 obtain ⟨s, hs⟩ : ∃ s, eS z.i g fr pg = s := ⟨_, rfl⟩
 have f := hs
 rw [eS, N, jv, D, C, A, E] at f
 rw [jv, D, C, A, E] at e
 rw [hs]
 refine jz 6 func62 ntmps62 ?_
 refine oD (b := b) fun a c => ?_
 refine aY (ae rfl (aM rfl) (ae rfl (kL rfl) ?_))
 refine ae rfl (d5 rfl so rfl aS rfl (by first | exact Qac _ | rfl)) ?_
 refine ae rfl (co db rfl (aI rfl)) ?_
 refine ae rfl (dh rfl rfl (by rw [cj (by omega)]; omega : IntKind.wrap .i64 ((g.clock : Int) + 1) = ((g.clock + 1 : Nat) : Int))) ?_
 refine ae rfl (kL rfl) ?_
 refine ae rfl (d5 rfl so rfl aS rfl (by first | exact Qac _ | rfl)) ?_
 refine fh (lU aS rfl rfl rfl (Qab rfl) (by exact rfl : (lQ z g (.slice a g.es.length c)).set 42 (.int .i64 ((g.clock + 1 : Nat) : Int)) = lQ z (j0 g) (.slice a g.es.length c))) ?_
 rintro _ _ rfl
 refine aL (aH (aO (aO (aY (ae rfl (aM rfl) (ae rfl (kL rfl) ?_))))))
 refine ae rfl (d5 rfl so rfl iN rfl (by first | exact Qac _ | rfl)) ?_
 refine ae rfl (co nP rfl (aI rfl)) ?_
 refine aL (aH ?_)
 refine aC rfl (fun P => ?_) fun P => ?_
 refine au 7 ?_
 refine ac ?_
 rw [Qad P] at f
 subst f
 exact ⟨_, ⟨L, T, rfl, rfl, hl, ht⟩, iy (g := j0 g) rfl rfl⟩
 refine aw ?_
 rw [Qaa P] at f
 refine eK (B := BY b z (j0 g) L T (iF z.v z.ps z.pm d fr pg R)) (iy (g := j0 g) rfl rfl) ?_
 refine aw ?_
 refine aF rfl (vE call142 rfl (a5A W0 _ b z (j0 g) L T hc (by show g.clock + 1 < _; omega) hl O ht)) ?_
 rintro _ J ⟨u, x, rfl, m, n, p⟩
 obtain rfl := m.symm
 rw [N] at n p ⊢
 refine aw ?_
 refine ai (fun Q => ?_) fun Q => ?_
 refine ac ?_
 rw [Qad Q] at f
 subst f
 exact ⟨_, ⟨u, x, rfl, rfl, n, p⟩, IO⟩
 rw [Qaa Q] at f
 refine oD (b := b) (z := z) (g := q.2) fun a c => ?_
 refine aw ?_
 refine aa (aE (aI (oz t.r.len))) ?_
 refine bz [b] 16 fun j => ?_
 refine aj 0 8 j ?_
 refine aj 9 1 j ?_
 refine bY 8 (ap GP (BK z.c t.cs)) fun j => ?_
 refine bQ 10 (cN call143 (Lz z.v z.ps z.pm d fr pg h K (i6 q.2.c.cs) (gH q.2.c.cs) (!dR q.2.c.cs) q.2.c.pc t.pc 4 0)) ?_; clear j
 rintro _ J ⟨rfl, m⟩
 obtain rfl := m.symm
 rw [show lL fr pg (i6 q.2.c.cs) (gH q.2.c.cs) (!dR q.2.c.cs) q.2.c.pc 4 0 = F from D, show pj fr pg (i6 q.2.c.cs) (gH q.2.c.cs) (!dR q.2.c.cs) q.2.c.pc 4 0 = w from C]
 refine ⟨aT, fun j => ?_⟩
 refine aj 11 5 j ?_
 refine aJ ?_
 refine ai (fun S => ?_) fun S => ?_
 rw [Qad S] at f e
 refine eK (B := dZ b (z, dG q.2) :: pt z.r (dB q.2.c.rl q.2.c.pc) :: pt z.c (dT q.2.c.cs z.i) :: g7 z.vic u :: eT z.tim x :: iF z.v z.ps z.pm d fr pg R) (iy (g := dG q.2) rfl rfl) ?_
 refine aw ?_
 refine aa (bG (d8 F)) ?_
 refine aa (qg rfl rfl (d8 _)) ?_
 refine aa (dh rfl rfl (d8 _)) ?_
 refine ah (cN CG (yY W0 _ b z (dG q.2) t (by show q.2.clock < _; omega) (qZ 3 F) q.2.c.pc (dJ _) t.pc)) ?_
 refine ac ?_
 subst f
 exact ⟨_, ⟨u, x, rfl, rfl, by rw [e.1, e.2.1]; exact n, by rw [e.2.2]; exact p⟩, IO⟩
 rw [Qaa S] at f e
 refine ah (aB call146 (a5o w hw)) ?_
 rw [A]
 refine bu fun b6 => ?_
 refine ar aA ?_
 refine aC rfl (fun H => ?_) fun H => ?_
 refine au 1 ?_
 rw [Qad (by simpa using H)] at f e
 refine eK (B := dZ b (z, dG q.2) :: pt z.r (dB q.2.c.rl q.2.c.pc) :: pt z.c (dT q.2.c.cs z.i) :: g7 z.vic u :: eT z.tim x :: iF z.v z.ps z.pm d fr pg R) (iy (g := dG q.2) rfl rfl) ?_
 refine aw ?_
 refine ah (cN CG (yY W0 _ b z (dG q.2) t (by show q.2.clock < _; omega) 1 w (by decide) hw)) ?_
 refine ac ?_
 subst f
 exact ⟨_, ⟨u, x, rfl, rfl, by rw [e.1, e.2.1]; exact n, by rw [e.2.2]; exact p⟩, IO⟩
 obtain rfl : vb = true := by simpa using H
 rw [Qaa (by decide)] at f e
 refine au 2 ?_
 refine cy (fun y : Nat => True) (fun y => [(0, pV b), (3, wV q.2.c.pc), (8, pV y)]) (fun y => dZ b (z, jK (dG q.2) o.2) :: pt y (ag (cK o.1) 267) :: pt z.r (dB o.2.rl o.2.pc) :: pt z.c (dT o.2.cs z.i) :: g7 z.vic u :: eT z.tim x :: iF z.v z.ps z.pm d fr pg R) ?_ ?_
 refine bz [b, b6] 18 fun j => ?_
 refine aj 0 10 j ?_
 refine eD (is := [10, 15]) (by kernel_rfl) rfl ⟨?_, ?_, trivial⟩
 refine cX (ap sB (BV W0 _ b z q.2 _ (by omega))) ?_; clear j
 rintro _ J ⟨rfl, m⟩
 obtain rfl := m.symm
 refine ⟨aT, fun j => ?_⟩
 refine eD (is := [11, 15]) (by kernel_rfl) rfl ⟨?_, ?_, trivial⟩
 refine cX (cv Ol (FJ W0 _ (fq w) z.r z.c ((dS q.2.clock : Nat) : Int) q.2.c z.i t A M (by omega))) ?_; clear j
 rintro _ J ⟨rfl, m⟩
 obtain rfl := m.symm
 rw [Qaf, E]
 refine ⟨aT, fun j => ?_⟩
 refine aj 12 3 j ?_
 refine bQ 15 (di l7) ?_; clear j
 rintro _ _ ⟨y, rfl, rfl⟩
 refine ⟨aT, fun j => ?_⟩
 refine cm 16 aA fun j => ?_
 refine aj 17 1 j ?_
 refine aJ ?_
 refine bq y ?_ (he := ?_)
 trivial
 exact iy (g := jK (dG q.2) o.2) rfl rfl
 skip
 refine cX (di l7) ?_; clear j
 rintro _ _ ⟨y, rfl, rfl⟩
 refine ⟨aT, fun j => ?_⟩
 refine bQ 11 (cv Ol (FJ W0 _ (fq w) z.r z.c ((dS q.2.clock : Nat) : Int) q.2.c z.i t A M (by omega))) ?_; clear j
 rintro _ J ⟨rfl, m⟩
 obtain rfl := m.symm
 rw [Qaf, E]
 refine ⟨aT, fun j => ?_⟩
 refine aj 12 3 j ?_
 refine cm 16 aA fun j => ?_
 refine aj 17 1 j ?_
 refine aJ ?_
 refine bq y ?_ (he := ?_)
 trivial
 exact iy (g := jK (dG q.2) o.2) rfl rfl
 skip
 refine cX (di l7) ?_; clear j
 rintro _ _ ⟨y, rfl, rfl⟩
 refine ⟨aT, fun j => ?_⟩
 refine bY 10 (ap sB (BV W0 _ b z q.2 _ (by omega))) fun j => ?_
 refine bQ 11 (cv Ol (FJ W0 _ (fq w) z.r z.c ((dS q.2.clock : Nat) : Int) q.2.c z.i t A M (by omega))) ?_; clear j
 rintro _ J ⟨rfl, m⟩
 obtain rfl := m.symm
 rw [Qaf, E]
 refine ⟨aT, fun j => ?_⟩
 refine aj 12 3 j ?_
 refine cm 16 aA fun j => ?_
 refine aj 17 1 j ?_
 refine aJ ?_
 refine bq y ?_ (he := ?_)
 trivial
 exact iy (g := jK (dG q.2) o.2) rfl rfl
 intro y _
 refine aw ?_
 refine ai (fun U => ?_) fun U => ?_
 rw [ii, Qad (by omega)] at f e
 refine ah (vF call148 rfl (a5z W0 _ b z (jK (dG q.2) o.2) d fr pg h K l.2 (by show q.2.clock < _; omega) o.1 l.1 (by omega))) ?_
 refine ac ?_
 subst f
 exact ⟨_, ⟨u, x, rfl, rfl, by rw [e.1, e.2.1]; exact n, by rw [e.2.2]; exact p⟩, IO⟩
 refine ai (fun V => ?_) fun V => ?_
 rw [ii, Qaa (by omega), Qad (by omega)] at f e
 refine ah (vF call148 rfl (a5y W0 _ b z (jK (dG q.2) o.2) d fr pg h K l.2 (by show q.2.clock < _; omega) o.1 l.1 (by omega))) ?_
 refine ac ?_
 subst f
 exact ⟨_, ⟨u, x, rfl, rfl, by rw [e.1, e.2.1]; exact n, by rw [e.2.2]; exact p⟩, IO⟩
 refine ai (fun W => ?_) fun W => ?_
 rw [ii, Qaa (by omega), Qaa (by omega), Qad (by omega)] at f e
 refine ah (cN CG (yY W0 _ b z (jK (dG q.2) o.2) l.2 (by show q.2.clock < _; omega) o.1.cause o.1.tval (by have := l.1.cause; omega) l.1.tval)) ?_
 refine ac ?_
 subst f
 exact ⟨_, ⟨u, x, rfl, rfl, by rw [e.1, e.2.1]; exact n, by rw [e.2.2]; exact p⟩, IO⟩
 refine ai (fun X => ?_) fun X => ?_
 rw [ii, Qaa (by omega), Qaa (by omega), Qaa (by omega), Qaa (by omega), Qaa (by omega), Qad (by omega)] at f e
 refine ac ?_
 subst f
 exact ⟨_, ⟨u, x, rfl, rfl, by rw [e.1, e.2.1]; exact n, by rw [e.2.2]; exact p⟩, IO⟩
 refine ai (fun Y => ?_) fun Y => ?_
 rw [ii, Qaa (by omega), Qaa (by omega), Qaa (by omega), Qaa (by omega), Qad (by omega)] at f e
 have G := G (by omega)
 refine oD (b := b) (z := z) (g := jK (dG q.2) o.2) fun a c => ?_
 refine aw ?_
 refine ar (iU (by exact rfl : (lQ z (jK (dG q.2) o.2) (.slice a q.2.es.length c)).set 43 (.bool true) = lQ z (gY q.2) (.slice a q.2.es.length c))) ?_
 refine bz [b, y] 9 fun j => ?_
 refine aj 0 8 j ?_
 refine cm 8 (dt (by rw [r9 l.2.r.len]; decide) (tJ l.2.r.len)) fun j => ?_
 refine aJ ?_
 refine eK (B := dZ b (z, mV (gY (jK (dG q.2) o.2)) o.1.pc) :: pt z.r (dB o.2.rl o.1.pc) :: pt z.c (dT o.2.cs z.i) :: pt y (ag (cK o.1) 267) :: g7 z.vic u :: eT z.tim x :: iF z.v z.ps z.pm d fr pg R) (iy (g := mV (gY (jK (dG q.2) o.2)) o.1.pc) rfl rfl) ?_
 refine aw ?_
 refine ah (ap sB (uZ W0 _ b z (mV (gY (jK (dG q.2) o.2)) o.1.pc) (by show q.2.clock < _; omega))) ?_
 refine ah (cv wY (v5 W0 _ b z (mV (gY (jK (dG q.2) o.2)) o.1.pc) l.2.r.len 4 ((dS q.2.clock : Nat) : Int) 0 0 q.2.c.pc)) ?_
 refine ac ?_
 rw [← G]
 subst f
 exact ⟨_, ⟨u, x, rfl, rfl, by rw [e.1, e.2.1]; exact n, by rw [e.2.2]; exact p⟩, IO⟩
 refine ai (fun Z => ?_) fun Z => ?_
 rw [ii, Qaa (by omega), Qaa (by omega), Qaa (by omega), Qad (by omega)] at f e
 refine oD (b := b) (z := z) (g := jK (dG q.2) o.2) fun a c => ?_
 refine bz [b, y] 9 fun j => ?_
 refine aj 0 8 j ?_
 refine cm 8 (dt (by rw [r9 l.2.r.len]; decide) (tJ l.2.r.len)) fun j => ?_
 refine aJ ?_
 refine eK (B := dZ b (z, mV (jK (dG q.2) o.2) o.1.pc) :: pt z.r (dB o.2.rl o.1.pc) :: pt z.c (dT o.2.cs z.i) :: pt y (ag (cK o.1) 267) :: g7 z.vic u :: eT z.tim x :: iF z.v z.ps z.pm d fr pg R) (iy (g := mV (jK (dG q.2) o.2) o.1.pc) rfl rfl) ?_
 refine aw ?_
 refine ac ?_
 subst f
 exact ⟨_, ⟨u, x, rfl, rfl, by rw [e.1, e.2.1]; exact n, by rw [e.2.2]; exact p⟩, IO⟩
 rw [ii, Qaa (by omega), Qaa (by omega), Qaa (by omega), Qaa (by omega), Qaa (by omega), Qaa (by omega)] at f e
 refine ac ?_
 subst f
 exact ⟨_, ⟨u, x, rfl, rfl, by rw [e.1, e.2.1]; exact n, by rw [e.2.2]; exact p⟩, IO⟩
end
theorem MP pb qs po fr (f w : Nat) (hf : f < po.length) (hff : f < fr.length) (ha : d6 po f = ((w : Int), true)) : sQ W0 126 [pV pb, iQ f] (dC pb (qs, po) :: cH qs fr :: R) (iQ 0) (dC pb (qs, po.set f (w, false)) :: cH qs (fr.set f cC) :: R) := by
 have e : eu fr.length f = true := by simp only [eu, Qak]; omega
 have a : (po.set f ((w : Int), false)).flatMap js = po.flatMap js := by
  have := Jy (po := po) (i := f) (t := false) hf
  rwa [ha] at this
 refine am func126 ntmps126 ?_
 refine xZ (pb := pb) (by omega) fun g c p q r h j k l m n o => ?_
 refine aw ?_
 refine ah (ap su (qy qs fr f)) ?_
 refine ai (fun b => ?_) fun b => ?_
 exact absurd b (by simp [e])
 refine aa (bM hf) ?_
 refine aa (aE (aI (y5 hf))) ?_
 refine ai (fun d => ?_) fun d => ?_
 exact absurd (by rw [ha]) d
 refine aa (bM hf) ?_
 refine ar (dt (JB hf) (Ek (v := (w : Int)) hf)) ?_
 refine ah (ap call101 (Jz qs fr f hff)) ?_
 refine ac ?_
 exact ⟨_, ⟨rfl, rfl⟩, mM (by simp) (by simp) a.symm rfl j k l m n (by rw [Qae, wc, Qap, ← wc, ← Qae]; exact o)⟩
theorem a5E pb qs po w (z : w < 16) (A : 0 < po.length) (r : po.length ≤ 32) (s : bS po w = []) : sQ W0 121 [pV pb, iQ w] (dC pb (qs, po) :: R) (.tuple #[iQ 0, iQ 2]) (dC pb (qs, po) :: R) := by
 have d : ∀ j, j < po.length → d6 po j ≠ ((w : Int), false) := fun j t q => by
  have p := kQ.2 ⟨t, q⟩
  rw [s] at p
  cases p
 refine am func121 ntmps121 ?_
 refine dk rfl rfl rfl (fun e => ?_) fun e => ?_
 omega
 refine aw ?_
 refine aC rfl (fun u => ?_) fun u => ?_
 omega
 refine aw ?_
 refine cW (fun i : Nat => i ≤ po.length) (fun i => [(0, pV pb), (1, iQ w), (6, iQ i)]) (fun _ => dC pb (qs, po) :: R) (fun i => po.length - i) 0 ?_ ?_
 exact QaG _
 intro i B
 refine xZ (pb := pb) (by omega) fun g c C D E v h k l m n o => ?_
 refine aw ?_
 refine bN (fun f => ?_) fun f => ?_
 refine ai (fun x => ?_) fun x => ?_
 have a : i < po.length := by omega
 refine aa (bM a) ?_
 refine aa (aE (aI (y3 a))) ?_
 refine bN (fun b => ?_) fun b => ?_
 refine aa (bM a) ?_
 refine aa (aE (aI (y5 a))) ?_
 refine ai (fun y => ?_) fun y => ?_
 exact absurd (by rw [Prod.ext_iff]; constructor <;> simp_all) (d i a)
 refine aa bW ?_
 refine bR (i + 1) ?_ (he := ?_)
 omega
 exact mM rfl rfl rfl rfl h k l m n o
 refine aa bW ?_
 refine bR (i + 1) ?_ (he := ?_)
 omega
 exact mM rfl rfl rfl rfl h k l m n o
 refine ax ?_
 exact ⟨_, ⟨rfl, rfl⟩, mM rfl rfl rfl rfl h k l m n o⟩
 refine ax ?_
 exact ⟨_, ⟨rfl, rfl⟩, mM rfl rfl rfl rfl h k l m n o⟩
theorem a5F pb ps pm i x (h : GMem i x) (hi : i < 16) : sP W0 127 [pV pb, pV pm] (dC pb (ps, x.po) :: cH ps x.fr :: pt pm (dI x.pg) :: R) (fun v B => ∃ k : Nat, v = iQ k ∧ B = dC pb (ps, (cr i 8 x).po) :: cH ps (cr i 8 x).fr :: pt pm (dI (cr i 8 x).pg) :: R) := by
 refine am func127 ntmps127 ?_
 refine cW (fun X : Nat × Nat => X.1 ≤ 8 ∧ X.2 ≤ X.1) (fun X => [(0, pV pb), (1, pV pm), (5, iQ X.2), (6, iQ X.1)]) (fun X => dC pb (ps, (cr i X.1 x).po) :: cH ps (cr i X.1 x).fr :: pt pm (dI (cr i X.1 x).pg) :: R) (fun X => 8 - X.1) (0, 0) ?_ ?_
 exact ⟨QaG _, Qam _⟩
 intro ⟨n, m⟩ ⟨hn, hm⟩
 dsimp only at hn hm ⊢
 have hg := h.strip hi n hn
 have hs : cr i (n + 1) x = ka i n (cr i n x) := rfl
 obtain ⟨y, hy⟩ : ∃ y, cr i n x = y := ⟨_, rfl⟩
 rw [hy] at hg hs ⊢
 refine aw ?_
 refine aC rfl (fun c3 => ?_) fun c3 => ?_
 refine au 2 ?_
 refine cy (fun X : Nat => n < 8 ∧ X ≤ n + 1) (fun X => [(0, pV pb), (1, pV pm), (5, iQ X), (6, iQ n)]) (fun X => dC pb (ps, (ka i n y).po) :: cH ps (ka i n y).fr :: pt pm (dI (ka i n y).pg) :: R) ?_ ?_
 refine au 5 ?_
 refine ah (ap wU (un pm y.pg hg.pg n)) ?_
 refine bu fun b7 => ?_
 refine ar aA ?_
 refine ai (fun c6 => ?_) fun c6 => ?_
 have hth : aN y.pg n = true := by simpa using c6
 obtain ⟨f, hf, hff, hfp⟩ := hg.at_ hth
 have ho := hg.own n (by omega) hth
 rw [hf, Qaf] at ho
 have e1 : ka i n y = ⟨y.fr.set f cC, fe y.pg n, y.po.set f ((i : Int), false)⟩ := by
  rw [ka, Qad hth, mW, hf, Qaf]
 refine eh 6 (ap call125 (KR pm y.pg hg.pg n)) ?_
 refine ae rfl (aE (aI (v := iQ f) (by rw [← hf]; rfl))) ?_
 refine ah (cv call126 (MP pb ps y.po y.fr f i hfp hff ho)) ?_
 refine aa (dQ (m + 1)) ?_
 refine bq (m + 1) ?_ (he := ?_)
 omega
 rw [e1]
 exact IO
 refine bq m ?_ (he := ?_)
 omega
 have hth : aN y.pg n = false := by simpa using c6
 have e1 : ka i n y = y := by rw [ka, Qaa (by rw [hth]; decide)]
 rw [e1]
 exact IO
 intro X ⟨hn8, hX⟩
 refine aw ?_
 refine aa (dQ (n + 1)) ?_
 refine bR (n + 1, X) ?_ (he := ?_)
 omega
 show Ent _ (dC pb (ps, (cr i (n + 1) x).po) :: cH ps (cr i (n + 1) x).fr :: pt pm (dI (cr i (n + 1) x).pg) :: R)
 rw [hs]
 exact IO
 refine aw ?_
 refine ac ?_
 obtain rfl : n = 8 := by omega
 rw [hy]
 exact ⟨_, ⟨m, rfl, rfl⟩, IO⟩
theorem MQ p : sQ W0 119 [iQ p] R (.bool (decide (0 ≤ p ∧ p < 8))) R := by
 refine am func119 ntmps119 ?_
 refine bN (fun a => ?_) fun a => ?_
 rw [show decide (0 ≤ p ∧ p < 8) = decide (p < 8) by apply QaA.2; omega]
 exact ac ao
 rw [show decide (0 ≤ p ∧ p < 8) = false by apply Qal; omega]
 exact ac ao
theorem wM {rl pc n} (h : rl.length = 16) (a : n < 16) : (rl.map wV ++ [wV pc])[n]? = some (wV (bP rl n)) := by
 have := Mo (pc := pc) h a
 rwa [Qaz] at this
theorem io {W0 A R b z g} [e : Tk dZ b A (z, g) R] {k v} (c : ∀ d, (lQ z g d)[k]? = some v) : bE (aQ W0 A) b k [v] := fun j u a => by
 match j, a with
 | 0, a => cases a; exact nN c
section
variable (W0 : World) (R : List HP) (b : Nat) (z : Rz) (g : Gu) (d : Nat)
theorem a5G (f : g.clock < 1000000000) (e : g.c.rl.length = 16) : sQ W0 49 [pV b] (dZ b (z, g) :: pt z.r (dB g.c.rl g.c.pc) :: R) (.tuple #[]) (dZ b (z, ov (gY g) 4 0 0 g.c.pc) :: pt z.r (dB g.c.rl g.c.pc) :: R) := by
 refine FL fun a c => ?_
 refine am func49 ntmps49 ?_
 refine ar (iU (by exact rfl : (lQ z g (.slice a g.es.length c)).set 43 (.bool true) = lQ z (gY g) (.slice a g.es.length c))) ?_
 refine eK (B := dZ b (z, gY g) :: pt z.r (dB g.c.rl g.c.pc) :: R) (iy (g := gY g) rfl rfl) ?_
 refine fj [(b, 11, [pV z.r]), (z.r, 0, g.c.rl.map wV ++ [wV g.c.pc])] 11 mixed rfl (bj (io fun _ => rfl) (bL aW)) (fun d => ?_)
 refine aj 0 2 d ?_
 refine aj 3 3 d ?_
 refine az 6 d (aE (ko (k := 0) rfl)) ?_
 refine aj 7 2 d ?_
 refine az 9 d (aE (dq (k := 1) rfl (oz e))) ?_
 refine fD 2 rfl rfl (ap sB (uZ W0 _ b z (gY g) f)) (bj (io fun _ => rfl) (bL aW)) fun d => ?_
 refine fD 10 rfl rfl (cv wY (v5 W0 _ b z (gY g) e 4 ((dS g.clock : Nat) : Int) 0 0 g.c.pc)) (bj (io fun _ => rfl) (bL aW)) fun d => ?_
 refine aJ ?_
 refine bU (.inr rfl) .nil ?_
 exact ao
theorem a5H (d : g.c.rl.length = 16) : sQ W0 52 [pV b] (dZ b (z, g) :: pt z.r (dB g.c.rl g.c.pc) :: R) (.tuple #[wV (bP g.c.rl 1), .agg #[wV (bP g.c.rl 2), wV (bP g.c.rl 3), wV (bP g.c.rl 4), wV (bP g.c.rl 5)]]) (dZ b (z, g) :: pt z.r (dB g.c.rl g.c.pc) :: R) := by
 refine lG func52 ntmps52 rfl rfl ?_
 refine aO (aY (ae rfl (bC rfl) ?_))
 refine eH (di Cg) fun e => ?_
 refine aL (aH (aO ?_))
 refine fj [(b, 11, [pV z.r]), (z.r, 0, g.c.rl.map wV ++ [wV g.c.pc])] 43 mixed rfl (bj (io fun _ => rfl) (bL aW)) (fun a => ?_)
 refine aj 0 3 a ?_
 refine az 3 a (aE (ko (k := 0) rfl)) ?_
 refine aj 4 2 a ?_
 refine az 6 a (eG (by decide)) ?_
 refine az 7 a (aE (dq (k := 1) rfl (wM d (n := 1) (by decide)))) ?_
 refine aj 8 3 a ?_
 refine az 11 a (aE (ko (k := 0) rfl)) ?_
 refine aj 12 2 a ?_
 refine az 14 a (eG (by decide)) ?_
 refine az 15 a (aE (dq (k := 1) rfl (wM d (n := 2) (by decide)))) ?_
 refine aj 16 3 a ?_
 refine az 19 a (aE (ko (k := 0) rfl)) ?_
 refine aj 20 2 a ?_
 refine az 22 a (eG (by decide)) ?_
 refine az 23 a (aE (dq (k := 1) rfl (wM d (n := 3) (by decide)))) ?_
 refine aj 24 3 a ?_
 refine az 27 a (aE (ko (k := 0) rfl)) ?_
 refine aj 28 2 a ?_
 refine az 30 a (eG (by decide)) ?_
 refine az 31 a (aE (dq (k := 1) rfl (wM d (n := 4) (by decide)))) ?_
 refine aj 32 3 a ?_
 refine az 35 a (aE (ko (k := 0) rfl)) ?_
 refine aj 36 2 a ?_
 refine az 38 a (eG (by decide)) ?_
 refine az 39 a (aE (dq (k := 1) rfl (wM d (n := 5) (by decide)))) ?_
 refine dr 40 rfl rfl rfl a (xC GR aX Cg rfl rfl rfl rfl) ?_
 refine aj 41 1 a ?_
 refine iC 42 rfl rfl aA (bj (io fun _ => rfl) (bL aW)) fun a => ?_
 refine aJ ?_
 exact aV (.cons (aR rfl) (.cons (b0 N6 G0 rfl rfl) .nil)) ao
theorem a5I (i : g.clock < 1000000000) (d : g.c.rl.length = 16) n w e (h : u32 n = e) : sQ W0 53 [pV b, iQ n, wV w] (dZ b (z, g) :: pt z.r (dB g.c.rl g.c.pc) :: R) (.tuple #[]) (dZ b (z, BE g e w) :: pt z.r (dB (qR g.c.rl e w) (cP g.c.pc)) :: R) := by
 have f : (g.c.rl.set 1 e).length = 16 := by simp [d]
 have a : (qR g.c.rl e w).length = 16 := by simp [qR, d]
 refine am func53 ntmps53 ?_
 refine aa (aE (nN fun _ => rfl)) ?_
 refine aa (eG (by decide)) ?_
 refine aa (aE (aI (wM d (n := 1) (by decide)))) ?_
 refine aa (aE (nN fun _ => rfl)) ?_
 refine aa (aE (aI (oz d))) ?_
 refine aa (aE (nN fun _ => rfl)) ?_
 refine aa (bG (by rw [d8, h] : IntKind.wrap .u32 n = ((e : Nat) : Int))) ?_
 refine aa (eG (by decide)) ?_
 refine ar (dt (by rw [r9 d]; decide) (FA d (n := 1) (by omega))) ?_
 refine aa (aE (nN fun _ => rfl)) ?_
 refine aa (eG (by decide)) ?_
 refine ar (dt (by rw [r9 f]; decide) (FA f (n := 2) (by omega))) ?_
 refine aa (aE (nN fun _ => rfl)) ?_
 refine aa (dh rfl rfl (show IntKind.wrap .u32 ((g.c.pc : Int) + 4) = ((cP g.c.pc : Nat) : Int) from d8 _)) ?_
 refine ar (dt (by rw [r9 a]; decide) (tJ a)) ?_
 refine eK (B := dZ b (z, yQ g e w) :: pt z.r (dB (qR g.c.rl e w) (cP g.c.pc)) :: R) (show Ent _ (dZ b (z, g) :: pt z.r (dB (qR g.c.rl e w) (cP g.c.pc)) :: R) from inferInstance) ?_
 refine aw ?_
 refine ah (ap sB (uZ W0 _ b z (yQ g e w) i)) ?_
 refine aa (bG (by rw [d8, h] : IntKind.wrap .u32 n = ((e : Nat) : Int))) ?_
 refine ah (cv wY (v5 W0 _ b z (yQ g e w) a 2 ((dS g.clock : Nat) : Int) (bP g.c.rl 1) e g.c.pc)) ?_
 refine bU (.inr rfl) .nil ?_
 exact ao
theorem a5J (H : z.i < 4) p x (h : GMem z.i x) (G : 0 < x.po.length) : bF Tryz.prog W0 45 [pV b, iQ p] (dZ b (z, g) :: pt z.v (gk z.ps z.pm d) :: pt z.pm (dI x.pg) :: dC z.pl (z.ps, x.po) :: R)
    (fun v B => v = iQ (wG z.i p x) ∧ B = dZ b (z, g) :: pt z.v (gk z.ps z.pm d) :: pt z.pm (dI (lx z.i p x).pg) :: dC z.pl (z.ps, (lx z.i p x).po) :: R) := by
 obtain ⟨E, a⟩ : ∃ b, aN x.pg p = b := ⟨_, rfl⟩
 obtain ⟨u, c⟩ : ∃ b, s8 p = b := ⟨_, rfl⟩
 have o : decide (0 ≤ p ∧ p < 8) = u := c
 rw [wG, lx, c, a]
 refine am func45 ntmps45 ?_
 refine ah (aB call119 (MQ p)) ?_
 rw [o]
 refine ai (fun w => ?_) fun w => ?_
 refine ac ?_
 rw [show u = false by simpa using w, Qaa (show ¬((false && !E) = true) from QbG)]
 exact ao
 have F : u = true := by simpa using w
 rw [F]
 obtain ⟨n, rfl, I⟩ := s9 (c.trans F)
 refine aa (aE (nN fun _ => rfl)) ?_
 refine ah (ap wU (un z.pm x.pg h.pg n)) ?_
 rw [a]
 refine bu fun J => ?_
 refine ar aA ?_
 refine ai (fun y => ?_) fun y => ?_
 refine ac ?_
 rw [y, Qaa (show ¬((true && !true) = true) by decide)]
 exact ao
 have r : E = false := by simpa using y
 rw [r]
 rw [r] at a
 obtain ⟨t, j⟩ : ∃ l, bS x.po z.i = l := ⟨_, rfl⟩
 rw [j]
 obtain ⟨e, f, A⟩ : ∃ e f, (∀ R, bF Tryz.prog W0 121 [pV z.pl, iQ z.i] (dC z.pl (z.ps, x.po) :: R) (fun v B => v = .tuple #[iQ ((f : Nat) : Int), iQ e] ∧ B = dC z.pl (z.ps, if e = 0 then x.po.set f ((z.i : Int), true) else x.po) :: R)) ∧ (e = 0 ∧ (∃ l, t = f :: l) ∨ e = 2 ∧ t = []) := by
  cases t with
  | nil => exact ⟨2, 0, fun R => by rw [Qaa (by decide)]; exact a5E z.pl z.ps x.po z.i (by omega) G h.po.len j, .inr ⟨rfl, rfl⟩⟩
  | cons f l => exact ⟨0, f, fun R => by rw [Qad rfl]; exact JD z.pl z.ps x.po z.i f l (by omega) h.po.len j, .inl ⟨rfl, l, rfl⟩⟩
 obtain ⟨C, s⟩ := A
 refine fj [(b, 10, [pV z.pl]), (b, 8, [iQ z.i])] 14 mixed rfl (bj (io fun _ => rfl) (bj (io fun _ => rfl) aW)) (fun m => ?_)
 refine aj 0 3 m ?_
 refine az 3 m (aE (ko (k := 0) rfl)) ?_
 refine aj 4 3 m ?_
 refine az 7 m (aE (ko (k := 1) rfl)) ?_
 refine fD 8 rfl rfl (ap call121 (C _)) (bj (io fun _ => rfl) (bj (io fun _ => rfl) aW)) fun m => ?_
 refine aj 9 5 m ?_
 refine aJ ?_
 refine aC rfl (fun D => ?_) fun D => ?_
 obtain ⟨rfl, l, rfl⟩ : e = 0 ∧ ∃ l, t = f :: l := by
  rcases s with q | ⟨rfl, _⟩
  exact q
  exact absurd D (by decide)
 rw [Qad (show (0 : Int) = 0 from rfl)]
 refine aw ?_
 refine aa (aE (nN fun _ => rfl)) ?_
 refine ah (ap Gw (Ai z.pm x.pg h.pg n ((f : Int), 3))) ?_
 refine ac ?_
 rw [Qad (show (true && !false) = true from rfl)]
 exact ao
 refine aw ?_
 refine ac ?_
 rcases s with ⟨q, _⟩ | ⟨rfl, rfl⟩
 exact absurd q D
 rw [Qaa (show ¬((2 : Int) = 0) by decide), Qad (show (true && !false) = true from rfl)]
 exact ao
theorem a5K (hi : z.i < 4) p x (h : GMem z.i x) : bF Tryz.prog W0 47 [pV b, iQ p] (dZ b (z, g) :: pt z.v (gk z.ps z.pm d) :: pt z.pm (dI x.pg) :: dC z.pl (z.ps, x.po) :: cH z.ps x.fr :: R)
    (fun v B => v = iQ (BF p x) ∧ B = dZ b (z, g) :: pt z.v (gk z.ps z.pm d) :: pt z.pm (dI (ly z.i p x).pg) :: dC z.pl (z.ps, (ly z.i p x).po) :: cH z.ps (ly z.i p x).fr :: R) := by
 obtain ⟨th, hth⟩ : ∃ b, aN x.pg p = b := ⟨_, rfl⟩
 obtain ⟨ow, how⟩ : ∃ b, s8 p = b := ⟨_, rfl⟩
 have how2 : decide (0 ≤ p ∧ p < 8) = ow := how
 rw [BF, ly, how, hth]
 refine am func47 ntmps47 ?_
 refine ah (aB call119 (MQ p)) ?_
 rw [how2]
 refine ai (fun c1 => ?_) fun c1 => ?_
 refine ac ?_
 rw [show ow = false by simpa using c1, Qaa (show ¬((false && th) = true) from QbG)]
 exact ao
 have ho : ow = true := by simpa using c1
 rw [ho]
 obtain ⟨n, rfl, hn⟩ := s9 (how.trans ho)
 refine aa (aE (nN fun _ => rfl)) ?_
 refine ah (ap wU (un z.pm x.pg h.pg n)) ?_
 rw [hth]
 refine bu fun b5 => ?_
 refine ar aA ?_
 refine ai (fun c4 => ?_) fun c4 => ?_
 refine ac ?_
 rw [show th = false by simpa using c4, Qaa (show ¬((true && false) = true) by decide)]
 exact ao
 have ht1 : th = true := by simpa using c4
 rw [ht1]
 rw [ht1] at hth
 obtain ⟨f, hf, hff, hfp⟩ := h.at_ hth
 have hown := h.own n hn hth
 rw [hf, Qaf] at hown
 have hgv : mW z.i n x = ⟨x.fr.set f cC, fe x.pg n, x.po.set f ((z.i : Int), false)⟩ := by rw [mW, hf, Qaf]
 rw [Qaf, hgv, Qad (show (true && true) = true from rfl)]
 refine aa (aE (nN fun _ => rfl)) ?_
 refine ah (ap call125 (KR z.pm x.pg h.pg n)) ?_
 refine fj [(b, 10, [pV z.pl]), (b5, 0, eM (bH x.pg n))] 8 mixed rfl (bj (io fun _ => rfl) (bL aW)) (fun hS => ?_)
 refine aj 0 3 hS ?_
 refine az 3 hS (aE (ko (k := 0) rfl)) ?_
 refine aj 4 1 hS ?_
 refine az 5 hS (aE (dq (k := 1) (v := iQ f) rfl (by rw [← hf]; rfl))) ?_
 refine fD 6 rfl rfl (cv call126 (MP z.pl z.ps x.po x.fr f z.i hfp hff hown)) (bj (io fun _ => rfl) (bL aW)) fun hS => ?_
 refine aj 7 1 hS ?_
 refine aJ ?_
 exact ac ao
end
theorem a5L {b R} : Ent (pt b (ag ([ej] ++ re ++ rf) 229) :: R) (g7 b [] :: R) :=
  (Ent.cons (fm (E := 3) (sz := 1) (A := R) (B := R))).trans (fK (R := R) (C := [_, _]) ⟨none, 0, rfl⟩)
theorem a5M {b R} : Ent (pt b (ag [ej] 253) :: R) (eT b [] :: R) :=
  (Ent.cons (fm (E := 255) (sz := 2) (A := R) (B := R))).trans (fK (R := R) (C := [_, _]) ⟨none, 0, rfl⟩)
@[reducible] def jw (z : Rz) (vr vc vv vt tv : Value) (ck : Nat) (h : Bool) : List Value := dy z.k ++ [.int .i64 z.i, z.wv, pV z.pl, vr, vc, pV z.v] ++ FK ++ [vv, vt, pV z.bx, tv, .int .i64 ck, .bool h, wV 0, wV 0, wV 0, wV 0]
theorem FN : ∀ (a l : List Value) (i : Nat), (∀ j v, a[j]? = some v → l[i + j]? = some v) → d7 l i a = l
 | [], l, i, _ => rfl
 | v :: a, l, i, h => by
  have b : l[i]? = some v := h 0 v rfl
  have e : l.set i v = l := AB b
  rw [d7, e]
  exact FN a l (i + 1) fun j u c => by
   have := h (j + 1) u c
   rwa [show i + (j + 1) = i + 1 + j by omega] at this
theorem a5N {A Q B i} (h : A.length = i) : d7 (A ++ Q ++ B) i Q = A ++ Q ++ B := FN _ _ _ fun j v a => by
 have b : j < Q.length := by
  rcases QaC j Q.length with q | q
  exact q
  rw [Qbk q] at a; cases a
 rw [QaJ, Qbn (by omega), QaB (by omega), show i + j - A.length = j by omega]
 exact a
theorem a5O {z vr vc vv vt tv ck h} : d7 (jw z vr vc vv vt tv ck h) 14 FK = jw z vr vc vv vt tv ck h := a5N rfl
theorem a5P {z vr vc vv vt tv ck h} : d7 (jw z vr vc vv vt tv ck h) 44 [wV 0, wV 0, wV 0, wV 0] = jw z vr vc vv vt tv ck h := FN _ _ _ fun j v a => by
 match j, a with
 | 0, a => exact a
 | 1, a => exact a
 | 2, a => exact a
 | 3, a => exact a
section
variable (W0 : World) (R : List HP) (b : Nat) (z : Rz) (d : Nat)
theorem MR (h : CfK W0 z.k) (O : rt z.k = true) (w : z.i < z.k.gl.length) vr vc vv vt tv ck hd x (P : ImOk x) (Q : 0 < x.fr.length) (p : qE x.pg 0 8) (n : Nat) (G : (cJ z.k z.i).2.1 = n) (s : n ≤ (bS x.po z.i).length) a cap ws (S : z.wv = .slice a ws.length cap) (T : ∀ A, cG (aQ W0 A) a 1 iJ ws) (U : ∀ y ∈ ws, y < 4294967296) (C : ws.length < 9223372036854775808) (t : ws.length ≤ cap) : sP W0 109 [pV b] (pt b (ag (jw z vr vc vv vt tv ck hd) 129) :: pt z.v (gk z.ps z.pm d) :: dC z.pl (z.ps, x.po) :: cH z.ps x.fr :: pt z.pm (dI x.pg) :: R) (fun v B => ∃ H I J K, v = iQ 0 ∧ B = pt b (ag (jw z (pV H) (pV I) (pV J) (pV K) tv ck false) 129) :: pt H (dB (List.replicate 16 0) 0) :: pt I (dT nK z.i) :: g7 J [] :: eT K [] :: pt z.v (gk z.ps z.pm d) :: dC z.pl (z.ps, (cI z.i (bA ws n) n x).po) :: cH z.ps (cI z.i (bA ws n) n x).fr :: pt z.pm (dI (cI z.i (bA ws n) n x).pg) :: R) := by
 have L := jt O
 have V := L.g4
 have D := L.gs z.i w
 rw [G] at D
 obtain ⟨W, o, E, q⟩ := (h.ok.g []).at_ w
 obtain ⟨u, M⟩ : ∃ u, z.k.gl[z.i] = u := ⟨_, rfl⟩
 have X : cJ z.k z.i = u := by simp [cJ, List.getD, w, M]
 rw [M] at q
 have F : u.2.1 = (n : Int) := by rw [← X]; exact G
 obtain ⟨Y, N⟩ : ∃ Y, cI z.i (bA ws n) n x = Y := ⟨_, rfl⟩
 rw [N]
 refine am func109 ntmps109 ?_
 refine fj [(b, 0, jw z vr vc vv vt tv ck hd), (z.v, 0, _), (W, o + z.i * 3, i9 u)] 40 mixed rfl (bL (bL (bj q.weak aW))) (fun l => ?_)
 refine aj 0 31 l ?_
 refine az 31 l (ek mZ l6 rfl E rfl rfl w (by first | exact Qac _ | rfl)) ?_
 refine aj 32 1 l ?_
 refine az 33 l (aE (km (k := 2) (j := 1) rfl (by rw [← F]; rfl : (i9 u)[1]? = some (iQ (n : Int))))) ?_
 refine aj 34 3 l ?_
 refine az 37 l (aE (dq (k := 0) (v := .slice a ws.length cap) rfl (by rw [← S]; rfl))) ?_
 refine bQ 38 (cN call187 (Zp z.pl z.ps z.pm z.i n x P Q a cap ws (by omega) (by omega) (by omega) p s (fun A _ => T A) U C t)) ?_; clear l
 rintro _ Z ⟨rfl, r⟩
 obtain rfl := r.symm
 rw [N]
 refine ⟨(bL (bL (bj q.weak aW))), fun l => ?_⟩
 refine aj 39 1 l ?_
 refine hQ ?_
 refine au 8 ?_
 refine jT ?_
 refine eH (kg rfl) fun c => ?_
 refine aw ?_
 refine ar (iU (by exact rfl : (jw z vr vc vv vt tv ck hd).set 11 (pV c) = jw z (pV c) vc vv vt tv ck hd)) ?_
 refine aF rfl (aB call188 (a0A z.i (by omega))) ?_
 rintro _ Z ⟨e, rfl, r⟩
 obtain rfl := r.symm
 refine aw ?_
 refine ar (iU (by exact rfl : (jw z (pV c) vc vv vt tv ck hd).set 12 (pV e) = jw z (pV c) (pV e) vv vt tv ck hd)) ?_
 refine aa (xo underlying122 sizeOf121 zeroValue122 rfl) ?_
 refine ar (iD (Qab rfl) (a5O)) ?_
 refine bB fun f => ?_
 refine ar (iU (by exact rfl : (jw z (pV c) (pV e) vv vt tv ck hd).set 38 (pV f) = jw z (pV c) (pV e) (pV f) vt tv ck hd)) ?_
 refine bB fun m => ?_
 refine ar (iU (by exact rfl : (jw z (pV c) (pV e) (pV f) vt tv ck hd).set 39 (pV m) = jw z (pV c) (pV e) (pV f) (pV m) tv ck hd)) ?_
 refine ar (iU (by exact rfl : (jw z (pV c) (pV e) (pV f) (pV m) tv ck hd).set 43 (.bool false) = jw z (pV c) (pV e) (pV f) (pV m) tv ck false)) ?_
 refine aa (xo GR aX Cg rfl) ?_
 refine ar (iD (Qab rfl) (a5P)) ?_
 refine gj (b := c) (o' := dB (List.replicate 16 0) 0) rfl ?_
 refine gj (b := e) (o' := dT nK z.i) rfl ?_
 refine gj (b := f) (o' := ag ([ej] ++ re ++ rf) 229) rfl ?_
 refine gj (b := m) (o' := ag [ej] 253) rfl ?_
 refine aw ?_
 refine ac ?_
 refine ⟨_, ⟨c, e, f, m, rfl, rfl⟩, ?_⟩
 exact Ent.trans (B := pt m (ag [ej] 253) :: pt f (ag ([ej] ++ re ++ rf) 229) :: pt b (ag (jw z (pV c) (pV e) (pV f) (pV m) tv ck false) 129) :: pt c (dB (List.replicate 16 0) 0) :: pt e (dT nK z.i) :: pt z.v (gk z.ps z.pm d) :: dC z.pl (z.ps, Y.po) :: cH z.ps Y.fr :: pt z.pm (dI Y.pg) :: R) inferInstance (a5M.trans ((Ent.cons a5L).trans inferInstance))
attribute [local irreducible] cr cI
theorem a5Q g (h : CfK W0 z.k) (G : rt z.k = true) (K : z.i < z.k.gl.length) (L : g.clock < 1000000000) x (u : GMem z.i x) (V : 0 < x.po.length) (n : Nat) (M : (cJ z.k z.i).2.1 = n) (H : n ≤ nL z.i x.po) a cap ws (N : z.wv = .slice a ws.length cap) (O : ∀ A, cG (aQ W0 A) a 1 iJ ws) (P : ∀ y ∈ ws, y < 4294967296) (C : ws.length < 9223372036854775808) (w : ws.length ≤ cap) : sP W0 48 [pV b] (dZ b (z, g) :: pt z.v (gk z.ps z.pm d) :: dC z.pl (z.ps, x.po) :: cH z.ps x.fr :: pt z.pm (dI x.pg) :: R) (fun v B => ∃ f j l m, v = iQ 0 ∧ B = dZ b ({ z with r := f, c := j, vic := l, tim := m }, pX g) :: pt f (dB (List.replicate 16 0) 0) :: pt j (dT nK z.i) :: g7 l [] :: eT m [] :: pt z.v (gk z.ps z.pm d) :: dC z.pl (z.ps, (je z.i n ws x).po) :: cH z.ps (je z.i n ws x).fr :: pt z.pm (dI (je z.i n ws x).pg) :: R) := by
 have Q := jt G
 have S := Q.g4
 have e := u.strip (show z.i < 16 by omega) 8 (Qam _)
 have o := BH u (show z.i < 16 by omega)
 have I := Fy u (show z.i < 16 by omega)
 have D : ImOk ⟨(cr z.i 8 x).fr, (cr z.i 8 x).po, (cr z.i 8 x).pg⟩ := ⟨e.fr, e.po, e.pg, e.len⟩
 have T := (yS u (show z.i < 16 by omega) 8 (Qam _)).1
 obtain ⟨Y, J⟩ : ∃ y, cI z.i (bA ws n) n ⟨(cr z.i 8 x).fr, (cr z.i 8 x).po, (cr z.i 8 x).pg⟩ = y := ⟨_, rfl⟩
 have E : je z.i n ws x = tI Y := by rw [je, J]
 rw [E]
 refine am func48 ntmps48 ?_
 refine fj [(b, 10, [pV z.pl]), (b, 13, [pV z.v]), (z.v, 0, _)] 12 mixed rfl (bj (io fun _ => rfl) (bj (io fun _ => rfl) (bL aW))) (fun p => ?_)
 refine aj 0 3 p ?_
 refine az 3 p (aE (ko (k := 0) rfl)) ?_
 refine aj 4 3 p ?_
 refine az 7 p (aE (ko (k := 1) rfl)) ?_
 refine aj 8 3 p ?_
 refine bQ 11 (cN call127 (a5F z.pl z.ps z.pm z.i x u (by omega))) ?_; clear p
 rintro _ U ⟨q, rfl, s⟩
 obtain rfl := s.symm
 refine ⟨(bj (io fun _ => rfl) (bj (io fun _ => rfl) (bL aW))), fun p => ?_⟩
 refine aJ ?_
 refine oD (b := b) fun t F => ?_
 refine gj (b := b) (o' := ag (jw z (pV z.r) (pV z.c) (pV z.vic) (pV z.tim) (.slice t g.es.length F) g.clock g.halted) 129) rfl ?_
 refine aw ?_
 refine aF rfl (vE call109 rfl (MR W0 _ b z d h G K (pV z.r) (pV z.c) (pV z.vic) (pV z.tim) (.slice t g.es.length F) g.clock g.halted ⟨(cr z.i 8 x).fr, (cr z.i 8 x).po, (cr z.i 8 x).pg⟩ D (by have := e.len; show 0 < (cr z.i 8 x).fr.length; omega) o n M (by show n ≤ (bS (cr z.i 8 x).po z.i).length; omega) a cap ws N O P C w)) ?_
 rintro _ U ⟨f, j, l, m, rfl, s⟩
 obtain rfl := s.symm
 rw [J]
 refine aw ?_
 refine gj (b := b) (o' := rj { z with r := f, c := j, vic := l, tim := m } (sd g) (.slice t g.es.length F)) rfl ?_
 refine eK (B := dZ b ({ z with r := f, c := j, vic := l, tim := m }, sd g) :: pt f (dB (List.replicate 16 0) 0) :: pt j (dT nK z.i) :: g7 l [] :: eT m [] :: pt z.v (gk z.ps z.pm d) :: dC z.pl (z.ps, Y.po) :: cH z.ps Y.fr :: pt z.pm (dI Y.pg) :: R) (iy rfl rfl) ?_
 refine aw ?_
 refine ah (ap sB (uZ W0 _ b { z with r := f, c := j, vic := l, tim := m } (sd g) L)) ?_
 refine ah (cv wY (v5 W0 _ b { z with r := f, c := j, vic := l, tim := m } (sd g) (by simp) 5 ((dS g.clock : Nat) : Int) 0 0 0)) ?_
 refine ac ?_
 refine ⟨_, ⟨f, j, l, m, rfl, rfl⟩, ?_⟩
 unfold tI
 exact IO
end
theorem a5R {b z R} : Ent (pt b (rj z g0 ej) :: R) (dZ b (z, g0) :: R) :=
  (Ent.cons (fm (E := 300) (sz := 21) (A := R) (B := R))).trans (fK (R := R) (C := [_, _]) ⟨none, 0, rfl⟩)
attribute [local irreducible] cI
theorem a5S c (h : CfK W0 c) (Q : rt c = true) i (hi : i < c.gl.length) (S : ∀ k, k < c.nl.length → (ie c k).1 ≠ (ie c k).2) qs pb fr po (hF : cz fr) (hP : PoOk po) (hl : po.length = fr.length) (h0 : 0 < fr.length) (x2 : (cJ c i).2.1 ≤ ((bS po i).length)) a cap ws (hs : ∀ A, cG (aQ W0 A) a 1 iJ ws) (hb : ∀ y ∈ ws, y < 4294967296) (hn : ws.length < 9223372036854775808) (K : ws.length ≤ cap) : sP W0 41 [.agg (dy c).toArray, iQ i, pV qs, pV pb, .slice a ws.length cap] (dC pb (qs, po) :: cH qs fr :: R) (fun v B => ∃ f z, v = .tuple #[pV f, iQ 0] ∧ z.k = c ∧ z.i = i ∧ z.ps = qs ∧ z.pl = pb ∧ z.wv = .slice a ws.length cap ∧ B = dZ f (z, g0) :: pt z.r (dB (List.replicate 16 0) 0) :: pt z.c (dT nK i) :: g7 z.vic [] :: eT z.tim [] :: pt z.v (gk qs z.pm 0) :: pt z.pm (dI (jf c i ws fr po).pg) :: dC pb (qs, (jf c i ws fr po).po) :: cH qs (jf c i ws fr po).fr :: pt z.bx (ag [ej] 217) :: R) := by
 have T := jt Q
 have x3 := T.g4
 have x4 := T.nn
 have x5 := T.gs i hi
 obtain ⟨n, p⟩ : ∃ n : Nat, (cJ c i).2.1 = (n : Int) := ⟨(cJ c i).2.1.toNat, by omega⟩
 have U : (cJ c i).2.1.toNat = n := by rw [p]; rfl
 have E : ImOk (laid c i ws fr po) := ux (by omega) ⟨hF, hP, yk, hl⟩
 obtain ⟨Y, V⟩ : ∃ Y, laid c i ws fr po = Y := ⟨_, rfl⟩
 have W : cI i (bA ws n) n ⟨fr, po, iK⟩ = Y := by rw [← V, laid, U]
 have hM : jf c i ws fr po = ⟨Y.fr, eZ c i c.nl.length Y.pg, Y.po⟩ := by rw [jf, V]
 rw [hM]
 rw [V] at E
 refine am func41 ntmps41 ?_
 refine bB fun J => ?_
 refine ah (aB Gx (AS c h.ok)) ?_
 rw [Q]
 refine cn (fun F => ?_) fun F => ?_
 exact absurd F (by decide)
 refine dk rfl rfl rfl (fun L => ?_) fun L => ?_
 omega
 refine aw ?_
 refine aC rfl (fun c1 => ?_) fun c1 => ?_
 omega
 refine aw ?_
 refine vQ (qs := qs) fun a2 c2 vs hv => ?_
 refine aw ?_
 refine dk rfl rfl rfl (fun G => ?_) fun G => ?_
 cases G
 refine aw ?_
 refine dk rfl rfl rfl (fun H => ?_) fun H => ?_
 omega
 refine aw ?_
 refine aC rfl (fun c3 => ?_) fun c3 => ?_
 cases c3
 refine au 3 ?_
 refine eK (a0C hv) ?_
 refine aY (ae rfl (pE FX v8 rfl rfl) ?_)
 refine ae rfl (aM rfl) (ae rfl (aM rfl) (ae rfl (aM rfl) (ae rfl (fT underlying217 zeroValue217 (aP sizeOf215 fR) fQ) ?_)))
 refine aF rfl (kg rfl) ?_
 rintro _ _ ⟨j, rfl, rfl⟩
 refine aa (a0B rfl rfl rfl rfl rfl rfl) ?_
 refine bB fun f => ?_
 refine bB fun d => ?_
 refine bB fun l => ?_
 refine ar dX ?_
 refine gj (b := d) (o' := dI iK) rfl ?_
 refine gj (b := l) (o' := gk qs d 0) rfl ?_
 refine gj (b := j) (o' := ag [ej] 217) rfl ?_
 refine gj (b := f) (o' := ag (jw ⟨0, 0, l, qs, d, pb, 0, 0, j, .slice a ws.length cap, i, c⟩ (.pointer none) (.pointer none) (.pointer none) (.pointer none) ej 0 false) 129) rfl ?_
 refine aw ?_
 refine aF rfl (vE call109 rfl (MR W0 _ f ⟨0, 0, l, qs, d, pb, 0, 0, j, .slice a ws.length cap, i, c⟩ 0 h Q hi (.pointer none) (.pointer none) (.pointer none) (.pointer none) ej 0 false ⟨fr, po, iK⟩ ⟨hF, hP, yk, hl⟩ h0 EC n p (by show n ≤ (bS po i).length; omega) a cap ws rfl hs hb hn K)) ?_
 rintro _ B_ ⟨s, t, u, w, rfl, X⟩
 obtain rfl := X.symm
 rw [W]
 refine au 10 ?_
 refine jT ?_
 refine ge (fun k : Nat => k ≤ c.nl.length) (fun k => [(1, iQ i), (5, pV J), (12, pV f), (14, iQ k)]) (fun k => pt J (eA c) :: pt f (ag (jw ⟨0, 0, l, qs, d, pb, 0, 0, j, .slice a ws.length cap, i, c⟩ (pV s) (pV t) (pV u) (pV w) ej 0 false) 129) :: pt s (dB (List.replicate 16 0) 0) :: pt t (dT nK i) :: g7 u [] :: eT w [] :: pt l (gk qs d 0) :: pt d (dI (eZ c i k Y.pg)) :: dC pb (qs, Y.po) :: cH qs Y.fr :: pt j (ag [ej] 217) :: R) (fun k => c.nl.length - k) 0 ?_ ?_ ?_ ?_
 exact QaG _
 · repeat (first | exact bK | refine aZ rfl ?_)
 rw [show eZ c i 0 Y.pg = Y.pg from rfl]
 exact IO
 intro k hk
 have I := yj (c := c) (i := i) E.pg k
 refine aw ?_
 refine aC rfl (fun Z => ?_) fun Z => ?_
 refine au 2 ?_
 refine cy (fun C : List Pl => C = eZ c i (k + 1) Y.pg) (fun _ => [(1, iQ i), (5, pV J), (12, pV f), (14, iQ k)]) (fun C => pt J (eA c) :: pt f (ag (jw ⟨0, 0, l, qs, d, pb, 0, 0, j, .slice a ws.length cap, i, c⟩ (pV s) (pV t) (pV u) (pV w) ej 0 false) 129) :: pt s (dB (List.replicate 16 0) 0) :: pt t (dT nK i) :: g7 u [] :: eT w [] :: pt l (gk qs d 0) :: pt d (dI C) :: dC pb (qs, Y.po) :: cH qs Y.fr :: pt j (ag [ej] 217) :: R) ?_ ?_
 refine au 2 ?_
 have m : k < c.nl.length := by omega
 obtain ⟨g, o, M, hc⟩ := (h.ok.n []).at_ m
 obtain ⟨x, hx⟩ : ∃ x, c.nl[k] = x := ⟨_, rfl⟩
 have hA : ie c k = x := by simp [ie, List.getD, m, hx]
 have p := S k m
 have D : eZ c i (k + 1) Y.pg = if ic (ie c k) i = 0 then eZ c i k Y.pg else dL (eZ c i k Y.pg) ((8 + k : Nat) : Int) (iY c k, ic (ie c k) i) := rfl
 rw [hA] at p D
 rw [hx] at hc
 refine aw ?_
 refine eh 3 (aB call110 (ZS c h.ok Q k (by omega) (by omega))) ?_
 refine cy (fun e : List Pl => Pgs e ∧ ((i : Int) = x.1 ∧ e = dL (eZ c i k Y.pg) ((8 + k : Nat) : Int) (iY c k, 3) ∨ (i : Int) ≠ x.1 ∧ e = eZ c i k Y.pg)) (fun _ => [(1, iQ i), (5, pV J), (12, pV f), (14, iQ k), (15, iQ (iY c k))]) (fun e => pt J (eA c) :: pt f (ag (jw ⟨0, 0, l, qs, d, pb, 0, 0, j, .slice a ws.length cap, i, c⟩ (pV s) (pV t) (pV u) (pV w) ej 0 false) 129) :: pt s (dB (List.replicate 16 0) 0) :: pt t (dT nK i) :: g7 u [] :: eT w [] :: pt l (gk qs d 0) :: pt d (dI e) :: dC pb (qs, Y.po) :: cH qs Y.fr :: pt j (ag [ej] 217) :: R) ?_ ?_
 refine au 5 ?_
 refine aa (ek zo zj rfl M rfl rfl m (by first | exact Qac _ | rfl)) ?_
 refine aa (aE (hc.weak 0 _ rfl)) ?_
 refine ai (fun x0 => ?_) fun x0 => ?_
 refine aa (dQ (8 + k)) ?_
 refine ah (ap Gw (Ai d (eZ c i k Y.pg) I (8 + k : Nat) (iY c k, 3))) ?_
 exact bq (dL (eZ c i k Y.pg) ((8 + k : Nat) : Int) (iY c k, 3)) (⟨vP I, .inl ⟨by omega, rfl⟩⟩)
 exact bq (eZ c i k Y.pg) (⟨I, .inr ⟨by omega, rfl⟩⟩)
 intro e ⟨N, O⟩
 refine aw ?_
 refine aa (ek zo zj rfl M rfl rfl m (by first | exact Qac _ | rfl)) ?_
 refine aa (aE (hc.weak 1 _ rfl)) ?_
 refine ai (fun x1 => ?_) fun x1 => ?_
 refine aa (dQ (8 + k)) ?_
 refine ah (ap Gw (Ai d e N (8 + k : Nat) (iY c k, 1))) ?_
 refine bq (dL e ((8 + k : Nat) : Int) (iY c k, 1)) ?_
 rcases O with ⟨q, _⟩ | ⟨q, rfl⟩
 omega
 rw [D, ic, Qaa q, Qad (show (i : Int) = x.2 by omega), Qaa (show ¬((1 : Int) = 0) by decide)]
 refine bq e ?_
 rcases O with ⟨q, rfl⟩ | ⟨q, rfl⟩
 rw [D, ic, Qad q, Qaa (show ¬((3 : Int) = 0) by decide)]
 rw [D, ic, Qaa q, Qaa (show ¬((i : Int) = x.2) by omega), Qad (show (0 : Int) = 0 from rfl)]
 intro C P
 subst P
 refine aw ?_
 refine aa bW ?_
 exact bR (k + 1) (by omega)
 refine aw ?_
 refine ax ?_
 obtain rfl : k = c.nl.length := by omega
 refine ⟨_, ⟨f, ⟨s, t, l, qs, d, pb, u, w, j, .slice a ws.length cap, i, c⟩, rfl, rfl, rfl, rfl, rfl, rfl, rfl⟩, ?_⟩
 exact Ent.trans (B := pt f (rj ⟨s, t, l, qs, d, pb, u, w, j, .slice a ws.length cap, i, c⟩ g0 ej) :: pt s (dB (List.replicate 16 0) 0) :: pt t (dT nK i) :: g7 u [] :: eT w [] :: pt l (gk qs d 0) :: pt d (dI (eZ c i c.nl.length Y.pg)) :: dC pb (qs, Y.po) :: cH qs Y.fr :: pt j (ag [ej] 217) :: R) inferInstance a5R
end
section
open Go.RowKit
set_option linter.unusedSimpArgs false
set_option linter.unusedVariables false
set_option maxRecDepth 20000
set_option synthInstance.maxSize 1000
set_option synthInstance.maxHeartbeats 400000
abbrev rA (b : Nat) (z : Rz) (g : Gu) (L : List Nat) (T : List (Int × Int)) (d : Nat) (x : Mm) (R : List HP) : List HP := dZ b (z, g) :: pt z.r (dB g.c.rl g.c.pc) :: pt z.c (dT g.c.cs z.i) :: g7 z.vic L :: eT z.tim T :: pt z.v (gk z.ps z.pm d) :: cH z.ps x.fr :: pt z.pm (dI x.pg) :: dC z.pl (z.ps, x.po) :: R
abbrev a5T (gb : Nat) (z : Gz) (g : Gu) (x : Mm) (R : List HP) : List HP := gA gb z g x (cR z.pb (z.ps, x.po) :: bD z.ps x.fr :: R)
theorem MS c (h : CfK W0 c) (hr : rt c = true) i (hi : i < c.gl.length) a cap ws (hs : ∀ A, cG (aQ W0 A) a 1 iJ ws) (hb : ∀ y ∈ ws, y < 4294967296) (hn : ws.length < 9223372036854775808) (hcap : ws.length ≤ cap) : sP W0 6 [.agg (dy c).toArray, iQ i, .slice a ws.length cap] R (fun v B => ∃ gb z wg wb zr, v = .tuple #[pV gb, pV wb, iQ 0, iQ 0] ∧ z.c = c ∧ z.i = i ∧ z.wv = .slice (some ⟨wg, 0, none⟩) (bA ws 8).length (bA ws 8).length ∧ zr.k = c ∧ zr.i = i ∧ zr.wv = .slice a ws.length cap ∧ B = a5T gb z g0 (jf c i ws (List.replicate (cp c) cC) (e7 c (cp c))) (rA wb zr g0 [] [] 0 (jf c i ws (List.replicate (cp c) cC) (e7 c (cp c))) (pt zr.bx (ag [ej] 217) :: pt z.bx td :: pt wg (ag ((bA ws 8).map wV) 38) :: R))) := by
 have p := jt hr
 have O := p.nd
 have P := p.g4
 have Q : 0 < cp c ∧ cp c ≤ 32 := by rw [cp]; omega
 have d : (List.replicate (cp c) cC).length = cp c := by simp
 have C : wh c = cp c := by rw [wh, Qad hr]
 have S := Fz hr hi ws
 have q : (cJ c i).2.1 ≤ ((bS (e7 c (cp c)) i).length : Int) := by
  have Y := Ep p hi
  have Z := (p.gs i hi).2.2.1
  omega
 refine am func6 ntmps6 ?_
 refine bB fun x => ?_
 refine ah (aB call32 (ZQ c h.ok)) ?_
 rw [C]
 refine aa (xT rfl rfl (show _ = ((cp c : Nat) : Int) by split <;> omega)) ?_
 refine aF rfl (aB call33 (Wy (cp c) (by omega))) ?_
 rintro _ t ⟨m, rfl, g⟩
 obtain rfl := g.symm
 refine aw ?_
 refine aF rfl (aB call34 (WO (cp c) (by omega))) ?_
 rintro _ t ⟨n, rfl, g⟩
 obtain rfl := g.symm
 refine aw ?_
 refine aF rfl (ap call35 (Yb m (List.replicate (cp c) cC) (by rw [d]; omega) (by rw [d]; omega))) ?_
 rintro _ t ⟨r, rfl, g⟩
 obtain rfl := g.symm
 rw [d, ← JF]
 refine aw ?_
 refine aF rfl (ap call36 (Zg n (List.replicate (cp c) cC) (by rw [d]; omega) (by rw [d]; omega))) ?_
 rintro _ t ⟨s, rfl, g⟩
 obtain rfl := g.symm
 rw [d, ← JF]
 refine aw ?_
 refine cW (fun f : Nat => f ≤ cp c) (fun f => [(1, iQ i), (2, .slice a ws.length cap), (3, pV x), (10, iQ (cp c : Nat)), (11, pV m), (13, pV n), (15, pV r), (17, pV s), (19, iQ f)]) (fun f => pt x (eA c) :: cR r (m, e7 c f) :: bD m (List.replicate (cp c) cC) :: dC s (n, e7 c f) :: cH n (List.replicate (cp c) cC) :: R) (fun f => cp c - f) 0 ?_ ?_
 exact QaG _
 intro f hf
 refine aw ?_
 refine aC rfl (fun T => ?_) fun T => ?_
 refine au 2 ?_
 refine cy (fun _ : Unit => f < cp c) (fun _ => [(1, iQ i), (2, .slice a ws.length cap), (3, pV x), (10, iQ (cp c : Nat)), (11, pV m), (13, pV n), (15, pV r), (17, pV s), (19, iQ f)]) (fun _ => pt x (eA c) :: cR r (m, e7 c (f + 1)) :: bD m (List.replicate (cp c) cC) :: dC s (n, e7 c (f + 1)) :: cH n (List.replicate (cp c) cC) :: R) ?_ ?_
 refine au 2 ?_
 have b : f < cp c := by omega
 have U := B6 (i := (jG c f).getD 0) hr b
 have D := a0D hr b
 refine aw ?_
 refine ah (aB call37 (ZR c h f hr (by rw [cp] at b; omega))) ?_
 refine bu fun V => ?_
 refine ar aA ?_
 refine aC rfl (fun l => ?_) fun l => ?_
 obtain ⟨j, E⟩ : ∃ j, jG c f = some j := by
  cases e : jG c f with
  | some j => exact ⟨j, rfl⟩
  | none => have := D e; rw [this] at l; exact absurd l (by decide)
 have u := B6 hr b E
 have W := ((y8 p).1 E).1
 have o := ZN b E
 refine au 5 ?_
 refine ae rfl (aE (aI (by rw [u]; rfl : (wi (lr c f))[1]? = some (iQ (j : Int))))) ?_
 refine kv (cv call38 (Yc r m (e7 c f) (List.replicate (cp c) cC) f j (by rw [pd]; exact b) (by rw [d]; exact b) (by omega) (AU p f) (by rw [uD b, Qaa (by omega)]))) ?_
 rw [JW, ← o]
 refine au 6 ?_
 refine ae rfl (aE (aI (by rw [u]; rfl : (wi (lr c f))[1]? = some (iQ (j : Int))))) ?_
 refine ah (cv call39 (Zi s n (e7 c f) (List.replicate (cp c) cC) f j (by rw [pd]; exact b) (by rw [d]; exact b) (by omega) (by rw [uD b, Qaa (by omega)]))) ?_
 rw [JW, ← o]
 exact bq () (b)
 have o : e7 c (f + 1) = e7 c f := by
  cases e : jG c f with
  | none => exact ZO e
  | some j => have := B6 hr b e; rw [this] at l; exact absurd rfl l
 refine aw ?_
 refine bq () ?_ (he := ?_)
 exact b
 rw [o]
 exact IO
 intro _ b
 refine aw ?_
 refine aa bW ?_
 exact bR (f + 1) (by omega)
 refine aw ?_
 obtain rfl : f = cp c := by omega
 refine aF rfl (cv call40 (a4N W0 _ c h hr i hi m r (List.replicate (cp c) cC) (e7 c (cp c)) (cz.new _) (AU p _) (by rw [pd, d]) (by rw [d]; omega) q a cap ws hs hb hn S)) ?_
 rintro _ t ⟨gb, z, wg, rfl, F, G, H, I, J, g⟩
 obtain rfl := g.symm
 obtain rfl := H
 obtain rfl := I
 refine aw ?_
 refine aF rfl (cv call41 (a5S c h hr i hi (fun k X => a4P hr X) n s (List.replicate (cp c) cC) (e7 c (cp c)) (cz.new _) (AU p _) (by rw [pd, d]) (by rw [d]; omega) q a cap ws hs hb hn hcap)) ?_
 rintro _ t ⟨wb, zr, rfl, K, w, L, M, N, g⟩
 obtain rfl := g.symm
 obtain rfl := L
 obtain rfl := M
 refine aw ?_
 refine aV (.cons (aR rfl) (.cons (aR rfl) (.cons (aR rfl) (.cons (aR rfl) .nil)))) ?_
 refine ⟨_, ⟨gb, z, wg, wb, zr, rfl, F, G, J, K, w, N, rfl⟩, ?_⟩
 unfold rA
 rw [w]
 exact IO
end
section
open Go.RowKit
set_option linter.unusedSimpArgs false
set_option linter.unusedVariables false
set_option maxRecDepth 20000
set_option synthInstance.maxSize 1000
set_option synthInstance.maxHeartbeats 400000
theorem a5U c (h : CfK W0 c) (g : rt c = true) i (j : i < c.gl.length) a cap ws (k : ∀ A, cG (aQ W0 A) a 1 iJ ws) (l : ∀ y ∈ ws, y < 4294967296) (m : ws.length < 9223372036854775808) (b : ws.length ≤ cap) : sP W0 6 [.agg (dy c).toArray, iQ i, .slice a ws.length cap] R (fun v B => ∃ d z e f, v = .tuple #[pV d, pV f, iQ 0, iQ 0] ∧ z.c = c ∧ z.i = i ∧ z.wv = .slice (some ⟨e, 0, none⟩) (bA ws 8).length (bA ws 8).length ∧ B = gA d z g0 (jf c i ws (List.replicate (cp c) cC) (e7 c (cp c))) (pt z.bx td :: pt e (ag ((bA ws 8).map wV) 38) :: cR z.pb (z.ps, (jf c i ws (List.replicate (cp c) cC) (e7 c (cp c))).po) :: bD z.ps (jf c i ws (List.replicate (cp c) cC) (e7 c (cp c))).fr :: R)) :=
  gQ (MS c h g i j a cap ws k l m b) fun v B n => by
 obtain ⟨d, z, e, f, r, rfl, o, p, q, _, _, _, rfl⟩ := n
 exact ⟨_, ⟨d, z, e, f, rfl, o, p, q, rfl⟩, IO⟩
end
end Go.Proofs.YtbhimdcapbflkaaGreatDoor
