/-
  Part 6 of the proof of GuestAnew: rules, and walks of functions. Conditions: none.
-/
import Derived.Test.YtbhimdcapbflkaaGreatDoorGuestAnewE
namespace Go.Proofs.YtbhimdcapbflkaaGreatDoor
open Go.Proofs.Tryz
set_option linter.unusedSimpArgs false
set_option linter.unusedVariables false
set_option maxRecDepth 20000
set_option linter.defProp false
set_option synthInstance.maxSize 8192
set_option synthInstance.maxHeartbeats 2000000
variable {W0 : World} {R : List HP}
section
open Go.RowKit
theorem yM {pg} {n f : Nat} (a : pg.length = 12) (b : n < 8) {t} : aK (pg.set n (f, 3)) t = (aK pg t || decide (t = n)) := by
 by_cases e : t = (n : Int);grind [yB];grind [g5]
theorem GMem.come {i n f : Nat} {x} (h : GMem i x) (D : i < 16) (s : n < 8) (u : aK x.pg n = false) (g : f < x.po.length) (j : d6 x.po f = ((i : Int), false)) fr' (y : cB fr') (v : fr'.length = x.fr.length) (z : ∀ k, k ≠ f → fr'.getD k [] = x.fr.getD k []) :
    GMem i ⟨fr', dO x.pg n (f, 3), x.po.set f (i, true)⟩ ∧ fW x.pg n (f, 3) = 0 := by
 have l : f < 32 := by have := h.po.len; omega
 have A := Ev s l u;have w : dO x.pg n ((f : Int), 3) = x.pg.set n ((f : Int), 3) := by grind [dO]
 have a := h.pg.len;have B := (yB (p := ((f : Int), 3)) a (show n < 12 by omega) (by grind)).2;have d : ∀ t : Int, aK x.pg t = true → (bF x.pg t).1 ≠ (f : Int) := fun t q e => by
  have m := q;simp only [aK, Qao] at m;obtain ⟨k, rfl, c⟩ := kM m.1;rcases QaC k 8 with b | b;have := h.own k b q;rw [e, Qae, j] at this;have := (Qcy this).2; cases this;have := h.far k b q;rw [e, Qae, j] at this;exact this rfl
 refine ⟨?_, A⟩;rw [w];refine ⟨y, h.po.set g (by simp) (by simp; omega), ?_, by rw [Qap, v]; exact h.len, ?_, fun t b q => ?_, fun k c q => ?_, fun t b q => ?_, fun k c q => ?_⟩;have := vJ (n := (n : Int)) (p := ((f : Int), 3)) h.pg
 rwa [w] at this
 rw [v];exact h.pl.set a (by omega) (by grind) (by have := h.len; omega) fun t q e => d t q e;dsimp only at q ⊢;rw [yM a s] at q;by_cases e : (t : Int) = (n : Int);grind [Qae, jV];rw [Qal e, QcL] at q;have o := yK h.pg q;rw [(g5 e).2, jV g, Qaa (fun r => d t q (by omega))];exact h.own t b q;dsimp only at c q ⊢;rw [Qap] at c;rw [jV g] at q;by_cases e : k = f;grind [yM];rw [Qaa e] at q;obtain ⟨t, b, o, C⟩ := h.all k c q;have r : (t : Int) ≠ (n : Int) := fun r => by rw [r, u] at o; cases o
 exact ⟨t, b, by rw [yM a s, o, Qbv], by rw [(g5 r).2]; exact C⟩;dsimp only at q ⊢;rw [yM a s] at q;have e : (t : Int) ≠ (n : Int) := by omega
 rw [Qal e, QcL] at q;have o := yK h.pg q;rw [(g5 e).2, jV g, Qaa (fun r => d t q (by omega))];exact h.far t b q;dsimp only at c q ⊢;rw [Qap] at c;rw [jV g] at q;by_cases e : k = f;grind;rw [Qaa e] at q;rw [z k e];exact h.nul k c q
theorem a46 {fr f o w x} {k : Nat} (a : k ≠ f) : (eJ fr f o w x).getD k [] = fr.getD k [] := by
 grind [eJ]
theorem FI {f} : ∀ {l : List Nat} {j : Nat} {a : List aB} {k : Nat}, k ≠ f → (gK f l j a).getD k [] = a.getD k []
 | [], _, _, _, _ => rfl
 | y :: t, j, a, k, h => by rw [gK, FI h, a46 h]
def rX (x : Im) : Mm := ⟨x.fr, x.pg, x.po⟩
theorem GMem.lay {i words x} (h : GMem i (rX x)) (a : i < 16) (b : pK x.pg 0 8) : ∀ n, n ≤ 8 → n ≤ (bN x.po i).length → GMem i (rX (ci i words n x))
 | 0, _, _ => h
 | n + 1, q, r => by
  have c := h.lay (words := words) a b n (by omega) (by omega);have j := (xL (who := i) (words := words) b h.pg.len n (by omega)).1 n (Qam _) (by omega);have d := xK (who := i) (words := words) (x := x) n;rw [ci, jz]
  cases e : bN (ci i words n x).po i with
  | nil => rw [e] at d; simp at d; omega
  | cons f l =>
   have g := kB.1 (show f ∈ bN (ci i words n x).po i by rw [e]; simp);obtain ⟨m, o⟩ := uq (f := f) (l := e7 words n) (k := 0) c.fr;exact (c.come a (by omega) j g.1 g.2 _ m o (fun k p => FI p)).1
abbrev yN (g : Gu) (e w : Nat) : Gu := { g with c := ⟨qL g.c.rl e w, cQ g.c.pc, g.c.cs⟩ }
abbrev BB (g : Gu) (e w : Nat) : Gu := oy (yN g e w) 2 (bL g.c.rl 1) e g.c.pc
section
variable (W0 : World) (R : List HP) (gb : Nat) (z : Gz) (g : Gu) (N : Nat)
theorem a47 (b : g.clock < 1000000000) (a : g.c.rl.length = 16) : sQ W0 50 [pV gb] (gN gb z g R) (iQ 0) (gN gb z (oy (hQ g) 4 0 0 g.c.pc) R) := by
 refine am func50 ntmps50 ?_;refine ah (ap lD (l5 W0 _ gb z g)) ?_;refine ar (iX (by exact rfl : (ly z g).set 8 (.bool true) = ly z (hQ g))) ?_;refine ah (ap sh (qJ z.x.r g.c.rl g.c.pc a)) ?_;refine ah (cM v9 (tx W0 _ gb z (hQ g) b a 4 0 0 g.c.pc)) ?_;exact ac ao
theorem a48 (f : g.clock < 1000000000) (a : g.c.rl.length = 16) n w e (d : u32 n = e) : sQ W0 54 [pV gb, iQ n, wV w] (gN gb z g R) (iQ 0) (gN gb z (BB g e w) R) := by
 have b : (qL g.c.rl e w).length = 16 := by simp [qL, a]
 refine am func54 ntmps54 ?_;refine ah (ap lD (l5 W0 _ gb z g)) ?_;refine ah (ap Oy (EL z.x.r g.c.rl g.c.pc 1 a (by decide))) ?_;refine ah (ap sh (qJ z.x.r g.c.rl g.c.pc a)) ?_;refine aa (bD (by rw [d8, d] : IntKind.wrap .u32 n = ((e : Nat) : Int))) ?_;refine ah (ap CB (ED W0 _ z.x.r g.c.rl g.c.pc 1 e a (by decide) (by decide))) ?_;refine ah (ap CB (ED W0 _ z.x.r (g.c.rl.set 1 e) g.c.pc 2 w (by simp [a]) (by decide) (by decide))) ?_;refine aa (db rfl rfl (d8 _)) ?_;refine ah (ap Cz (y5 z.x.r (qL g.c.rl e w) g.c.pc (cQ g.c.pc) b)) ?_;refine aa (bD (by rw [d8, d] : IntKind.wrap .u32 n = ((e : Nat) : Int))) ?_;refine ah (cM v9 (tx W0 _ gb z (yN g e w) f b 2 (bL g.c.rl 1) e g.c.pc)) ?_;exact ac ao
theorem BC (a : g.c.rl.length = 16) : sQ W0 20 [pV gb] (pt gb (cH z g) :: pt z.x.r (dD g.c.rl g.c.pc) :: R) (.agg (g.c.rl.map wV).toArray) (pt gb (cH z g) :: pt z.x.r (dD g.c.rl g.c.pc) :: R) := by
 refine am func20 ntmps20 ?_;refine bj fun b => ?_;refine ah (ap lD (l5 W0 _ gb z g)) ?_;refine ah (ap call81 (K9 z.x.r g.c.rl g.c.pc a)) ?_;refine ar (fN rj rfl rfl (by grind) (AT g.c.rl) rfl) ?_;exact aV (.cons (bi Cv rj rfl (by grind)) .nil) ao
theorem a49 (a : g.c.rl.length = 16) i x : sQ W0 57 [pV gb, iQ i, wV x] (pt gb (cH z g) :: pt z.x.r (dD g.c.rl g.c.pc) :: R) (iQ (if gO i then 0 else 1)) (pt gb (cH z g) :: pt z.x.r (dD (if gO i then j5 g.c.rl i.toNat x else g.c.rl) g.c.pc) :: R) := by
 refine am func57 ntmps57 ?_;refine ah (ap lD (l5 W0 _ gb z g)) ?_;refine ah (ap CB (Fa z.x.r g.c.rl g.c.pc x i a)) ?_;exact ac ao
theorem yO : sQ W0 11 [pV gb] (pt gb (cH z g) :: R) (pV z.pv) (pt gb (cH z g) :: R) := by
 refine am func11 ntmps11 ?_;refine ah (ap lD (l5 W0 _ gb z g)) ?_;exact ac ao
theorem Mo : bE Tryz.prog W0 24 [pV gb] (pt gb (cH z g) :: R) (fun v B => v = pV z.x.v ∧ B = pt gb (cH z g) :: R) := by
 refine am func24 ntmps24 ?_;refine ah (ap lD (l5 W0 _ gb z g)) ?_;exact ac ao
theorem Mp : sQ W0 26 [pV gb] (pt gb (cH z g) :: R) (kG z.x.t) (pt gb (cH z g) :: R) := by
 refine am func26 ntmps26 ?_;refine ah (ap lD (l5 W0 _ gb z g)) ?_;exact ac ao
theorem Mq : sQ W0 17 [pV gb] (pt gb (cH z g) :: R) (pV z.tr) (pt gb (cH z g) :: R) := by
 refine am func17 ntmps17 ?_;refine ah (ap lD (l5 W0 _ gb z g)) ?_;exact ac ao
theorem FJ : sQ W0 16 [pV gb] (pt gb (cH z g) :: R) (iQ g.clock) (pt gb (cH z g) :: R) := by
 refine am func16 ntmps16 ?_;refine ah (ap lD (l5 W0 _ gb z g)) ?_;exact ac ao
theorem a5a : sQ W0 23 [pV gb] (pt gb (cH z g) :: R) (.bool g.halted) (pt gb (cH z g) :: R) := by
 refine am func23 ntmps23 ?_;refine ah (ap lD (l5 W0 _ gb z g)) ?_;refine iF rfl rfl rfl (fun a => ?_) fun a => ?_;refine au 14 ?_;exact ac ao
 first | exact absurd rfl a | exact absurd (by decide) a | simp at a
theorem Mr (a : g.c.rl.length = 16) : sQ W0 21 [pV gb] (pt gb (cH z g) :: pt z.x.r (dD g.c.rl g.c.pc) :: R) (wV g.c.pc) (pt gb (cH z g) :: pt z.x.r (dD g.c.rl g.c.pc) :: R) := by
 refine am func21 ntmps21 ?_;refine ah (ap lD (l5 W0 _ gb z g)) ?_;refine ah (ap sh (qJ z.x.r g.c.rl g.c.pc a)) ?_;exact ac ao
theorem Ms {W0 R} p : sQ W0 116 [iQ p] R (.bool (decide (0 ≤ p ∧ p < 8))) R := by
 refine am func116 ntmps116 ?_;refine bO (fun a => ?_) fun a => ?_;rw [show decide (0 ≤ p ∧ p < 8) = decide (p < 8) by apply Qaz.2; omega];exact ac ao;rw [show decide (0 ≤ p ∧ p < 8) = false by apply Qal; omega];exact ac ao
end
def rY (p : Int) : Bool := decide (0 ≤ p ∧ p < 8)
theorem rZ {p} (h : rY p = true) : ∃ n : Nat, p = n ∧ n < 8 := by
 have := Qar h;exact ⟨p.toNat, by omega, by omega⟩
def wx (i : Nat) (p : Int) (x : Mm) : Int := if rY p then (if aK x.pg p then 5 else (if bN x.po i = [] then 2 else 0)) else 1
def lz (i : Nat) (p : Int) (x : Mm) : Mm :=
  if rY p && !aK x.pg p then (match bN x.po i with | f :: _ => ⟨x.fr, dO x.pg p ((f : Int), 3), x.po.set f ((i : Int), true)⟩ | [] => x) else x
def BD (p : Int) (x : Mm) : Int := if rY p then (if aK x.pg p then 0 else 3) else 1
def lB (i : Nat) (p : Int) (x : Mm) : Mm := if rY p && aK x.pg p then nh i p.toNat x else x
theorem GMem.take {i p x} (h : GMem i x) (b : i < 16) : GMem i (lz i p x) := by
 unfold lz;split
 rename_i q
 simp only [Qao, Bool.not_eq_true'] at q;obtain ⟨n, rfl, c⟩ := rZ q.1
 cases e : bN x.po i with
 | nil => exact h
 | cons f l =>
  have a := kB.1 (show f ∈ bN x.po i by rw [e]; simp);exact (h.come b c q.2 a.1 a.2 x.fr h.fr rfl (fun _ _ => rfl)).1
 exact h
theorem GMem.gave {i p x} (h : GMem i x) (a : i < 16) : GMem i (lB i p x) := by
 unfold lB;split
 rename_i q
 simp only [Qao] at q;obtain ⟨n, rfl, b⟩ := rZ q.1;rw [Qae];exact h.give b q.2 a;exact h
section
variable (W0 : World) (R : List HP) (gb : Nat) (z : Gz) (g : Gu) (N : Nat)
theorem a5b (hi : z.i < 4) p x (h : GMem z.i x) (W : 0 < x.po.length) : sQ W0 44 [pV gb, iQ p] (pt gb (cH z g) :: gZ z.x.m ⟨z.pv, z.ps, z.pm, g.bud, x.fr, x.pg⟩ :: cR z.pb (z.ps, x.po) :: R) (iQ (wx z.i p x)) (pt gb (cH z g) :: gZ z.x.m ⟨z.pv, z.ps, z.pm, g.bud, (lz z.i p x).fr, (lz z.i p x).pg⟩ :: cR z.pb (z.ps, (lz z.i p x).po) :: R) := by
 obtain ⟨Y, s⟩ : ∃ b, aK x.pg p = b := ⟨_, rfl⟩
 obtain ⟨G, w⟩ : ∃ b, rY p = b := ⟨_, rfl⟩
 have y : decide (0 ≤ p ∧ p < 8) = G := w;rw [wx, lz, w, s];refine lK (List.Perm.swap _ _ _) (qT fun o r c T L j d N O P Q => ?_);have a : ∀ X : List HP, Ent (pt gb (cH z g) :: pt z.x.m (cD z.pv o r) :: aU o (c, cX 4 j) :: bG r L :: pt z.pv (bW z.ps z.pm d) :: pt z.pm (bB x.pg) :: X) (pt gb (cH z g) :: gZ z.x.m ⟨z.pv, z.ps, z.pm, g.bud, x.fr, x.pg⟩ :: X) := fun X => Ent.cons (ou N O P Q);refine am func44 ntmps44 ?_;refine ah (ap lD (l5 W0 _ gb z g)) ?_;refine ah (aC call116 (Ms p)) ?_;rw [y];refine ai (fun S => ?_) fun S => ?_;refine ac ?_;rw [show G = false by simpa using S];exact ⟨_, ⟨rfl, rfl⟩, Ent.trans (B := pt gb (cH z g) :: pt z.x.m (cD z.pv o r) :: aU o (c, cX 4 j) :: bG r L :: pt z.pv (bW z.ps z.pm d) :: pt z.pm (bB x.pg) :: cR z.pb (z.ps, x.po) :: R) inferInstance (a _)⟩;have U : G = true := by grind
 rw [U];obtain ⟨n, rfl, Z⟩ := rZ (w.trans U);refine ah (ap sg (qt z.pv z.ps z.pm d)) ?_;refine ah (ap wL (uh z.pm x.pg h.pg n)) ?_;rw [s];refine bj fun b5 => ?_;refine ar aF ?_;refine ai (fun V => ?_) fun V => ?_;refine ac ?_;rw [V];exact ⟨_, ⟨rfl, rfl⟩, Ent.trans (B := pt gb (cH z g) :: pt z.x.m (cD z.pv o r) :: aU o (c, cX 4 j) :: bG r L :: pt z.pv (bW z.ps z.pm d) :: pt z.pm (bB x.pg) :: cR z.pb (z.ps, x.po) :: R) inferInstance (a _)⟩;have A : Y = false := by grind
 rw [A];rw [A] at s;obtain ⟨F, u⟩ : ∃ l, bN x.po z.i = l := ⟨_, rfl⟩
 rw [u];obtain ⟨e, f, H⟩ : ∃ e f, (∀ R, bE Tryz.prog W0 117 [pV z.pb, iQ z.i] (cR z.pb (z.ps, x.po) :: R) (fun v B => v = .tuple #[iQ ((f : Nat) : Int), iQ e] ∧ B = cR z.pb (z.ps, if e = 0 then x.po.set f ((z.i : Int), true) else x.po) :: R)) ∧ (e = 0 ∧ (∃ l, F = f :: l) ∨ e = 2 ∧ F = []) := by
  cases F with
  | nil => exact ⟨2, 0, fun R => by rw [Qaa (by decide)]; exact a43 z.pb z.ps x.po z.i W (by omega) h.po u, .inr ⟨rfl, rfl⟩⟩
  | cons f l => exact ⟨0, f, fun R => by rw [Qad rfl]; exact Jf z.pb z.ps x.po z.i f l (by omega) h.po u, .inl ⟨rfl, l, rfl⟩⟩
 obtain ⟨I, J⟩ := H;refine bq [gb] 14 fun K => ?_;refine aj 0 8 K ?_;refine cg 8 (ap call117 (I _)) fun K => ?_;refine aj 9 5 K ?_;refine aJ ?_;refine aA rfl (fun c9 => ?_) fun c9 => ?_;refine au 8 ?_;refine ac ?_;rcases J with ⟨q, _⟩ | ⟨rfl, rfl⟩;omega;rw [Qaa (show ¬((2 : Int) = 0) by decide)];exact ⟨_, ⟨rfl, rfl⟩, Ent.trans (B := pt gb (cH z g) :: pt z.x.m (cD z.pv o r) :: aU o (c, cX 4 j) :: bG r L :: pt z.pv (bW z.ps z.pm d) :: pt z.pm (bB x.pg) :: cR z.pb (z.ps, x.po) :: R) inferInstance (a _)⟩;refine au 3 ?_;obtain ⟨rfl, l, rfl⟩ : e = 0 ∧ ∃ l, F = f :: l := by
  grind
 rw [Qad (show (0 : Int) = 0 from rfl)];have C := kB.1 (show f ∈ bN x.po z.i by rw [u]; simp);obtain ⟨hG, hE⟩ := h.come (by omega) Z s C.1 C.2 x.fr h.fr rfl (fun _ _ => rfl);have D := Q.come (n := n) (p := ((f : Int), 3)) (by have := C.1; have := h.len; show (f : Int) < _; omega) fun t q e => by
  have E := q;simp only [aK, Qao] at E;obtain ⟨k, rfl, hk⟩ := kM E.1;rcases QaC k 8 with M | M;have := h.own k M q;rw [e, Qae, C.2] at this;have := (Qcy this).2; cases this;have := h.far k M q;rw [e, Qae, C.2] at this;exact this rfl
 refine aw ?_;refine ah (ap sg (qt z.pv z.ps z.pm d)) ?_;refine ah (ap Oe (Dv z.pm x.pg h.pg n ((f : Int), 3))) ?_;rw [hE];refine ac ?_;refine ⟨_, ⟨rfl, rfl⟩, ?_⟩;exact Ent.trans (B := pt gb (cH z g) :: pt z.x.m (cD z.pv o r) :: aU o (c, cX 4 j) :: bG r L :: pt z.pv (bW z.ps z.pm d) :: pt z.pm (bB (dO x.pg n ((f : Int), 3))) :: cR z.pb (z.ps, x.po.set f ((z.i : Int), true)) :: R) inferInstance (Ent.cons (ou N O P D))
theorem a5c (hi : z.i < 4) p x (h : GMem z.i x) : sQ W0 46 [pV gb, .int .i64 p] (pt gb (cH z g) :: gZ z.x.m ⟨z.pv, z.ps, z.pm, g.bud, x.fr, x.pg⟩ :: cR z.pb (z.ps, x.po) :: aY z.ps x.fr :: R) (.int .i64 (BD p x)) (pt gb (cH z g) :: gZ z.x.m ⟨z.pv, z.ps, z.pm, g.bud, (lB z.i p x).fr, (lB z.i p x).pg⟩ :: cR z.pb (z.ps, (lB z.i p x).po) :: aY z.ps (lB z.i p x).fr :: R) := by
 obtain ⟨th, hth⟩ : ∃ b, aK x.pg p = b := ⟨_, rfl⟩
 obtain ⟨ow, how⟩ : ∃ b, rY p = b := ⟨_, rfl⟩
 have how2 : decide (0 ≤ p ∧ p < 8) = ow := how;rw [BD, lB, how, hth];refine lK (List.Perm.swap _ _ _) (qT fun bt bs its T L now d h1 h2 h3 h4 => ?_);have hclose : ∀ X : List HP, Ent (pt gb (cH z g) :: pt z.x.m (cD z.pv bt bs) :: aU bt (its, cX 4 now) :: bG bs L :: pt z.pv (bW z.ps z.pm d) :: pt z.pm (bB x.pg) :: X) (pt gb (cH z g) :: gZ z.x.m ⟨z.pv, z.ps, z.pm, g.bud, x.fr, x.pg⟩ :: X) := fun X => Ent.cons (ou h1 h2 h3 h4);refine ju 10 func46 ntmps46 ?_;refine dV 3 (gU lD rfl (l5 W0 _ gb z g)) ?_;refine aA rfl (fun c1 => ?_) fun c1 => ?_;exact absurd c1 (by decide);refine au 3 ?_;refine jO (iE call116 rfl (Ms p)) ?_;rw [how2];refine au 4 ?_;refine aA rfl (fun c3 => ?_) fun c3 => ?_;refine au 8 ?_;refine ac ?_;rw [show ow = false by simpa using c3];exact ⟨_, ⟨rfl, rfl⟩, Ent.trans (B := pt gb (cH z g) :: pt z.x.m (cD z.pv bt bs) :: aU bt (its, cX 4 now) :: bG bs L :: pt z.pv (bW z.ps z.pm d) :: pt z.pm (bB x.pg) :: cR z.pb (z.ps, x.po) :: aY z.ps x.fr :: R) inferInstance (hclose _)⟩;refine au 4 ?_;have ho : ow = true := by grind
 rw [ho];obtain ⟨n, rfl, hn⟩ := rZ (how.trans ho);refine au 5 ?_;refine jO (gU sg rfl (qt z.pv z.ps z.pm d)) ?_;refine ae rfl (aM rfl) (jO (gU wL rfl (uh z.pm x.pg h.pg n)) ?_);rw [hth];refine au 3 ?_;refine ez (dx Cl) fun b5 => ?_;refine iW 10 (fN pW rfl rfl rfl rfl rfl) ?_;refine aA rfl (fun c6 => ?_) fun c6 => ?_;refine au 7 ?_;refine ac ?_;rw [show th = false by simpa using c6];exact ⟨_, ⟨rfl, rfl⟩, Ent.trans (B := pt gb (cH z g) :: pt z.x.m (cD z.pv bt bs) :: aU bt (its, cX 4 now) :: bG bs L :: pt z.pv (bW z.ps z.pm d) :: pt z.pm (bB x.pg) :: cR z.pb (z.ps, x.po) :: aY z.ps x.fr :: R) inferInstance (hclose _)⟩;refine au 3 ?_;have ht1 : th = true := by grind
 rw [ht1];rw [ht1] at hth;obtain ⟨f, hf, hff, hfp⟩ := h.at_ hth;have hown := h.own n hn hth;rw [hf, Qae] at hown;have hgv : nh z.i n x = ⟨x.fr.set f cm, eZ x.pg n, x.po.set f ((z.i : Int), false)⟩ := by grind [nh]
 have hne : ∀ t : Nat, t < 8 → aK (eZ x.pg n) t = true → (x.fr.set f cm).getD (bF (eZ x.pg n) t).1.toNat [] = x.fr.getD (bF (eZ x.pg n) t).1.toNat [] := fun t h8 q => by
  rw [yL h.pg.len, Qao, Qak] at q;have h5 := yK h.pg q.1;rw [BA q.2];exact FH fun e2 => q.2 (h.pl.inj _ _ q.1 hth (by omega))
 refine au 5 ?_;refine jO (gU sg rfl (qt z.pv z.ps z.pm d)) ?_;refine ae rfl (aM rfl) (dV 10 (gU GF rfl (La z.pm x.pg h.pg n)) ?_);refine aD rfl (lM call123 rfl (a3P z.x.m z.pv bt bs z.ps z.pm d its 4 now T L x.fr x.pg h1 h2 (by decide) n h4)) ?_;rintro _ B_ ⟨rfl, its2, T2, L2, hB_, k1, k2, k3⟩;obtain rfl := hB_.symm;have k4 := k3.frame (fr' := x.fr.set f cm) (by simp) (Mn h.fr f) hne;refine au 3 ?_;refine fj [(gb, 0, _), (b5, 0, _)] 8 mixed rfl (bQ (bQ bH)) (fun hS => ?_);refine aj 0 5 hS ?_;refine dp 5 rfl rfl rfl hS (cu di rfl (dm (j := 0) (k := 1) (v := .int .i64 f) rfl (by grind))) ?_;refine gy 6 rfl rfl (wZ call124 rfl (Ml z.pb z.ps x.po x.fr f z.i hfp hff (by omega) h.po hown)) (bQ (bQ bH)) fun hS => ?_;refine aj 7 1 hS ?_;refine i6 ?_;refine au 2 ?_;refine ac ?_;rw [Qad rfl, Qad (by rfl), Qae, hgv];refine ⟨_, ⟨rfl, rfl⟩, ?_⟩;exact Ent.trans (B := pt gb (cH z g) :: pt z.x.m (cD z.pv bt bs) :: aU bt (its2, cX 4 now) :: bG bs L2 :: pt z.pv (bW z.ps z.pm 0) :: pt z.pm (bB (eZ x.pg n)) :: cR z.pb (z.ps, x.po.set f ((z.i : Int), false)) :: aY z.ps (x.fr.set f cm) :: R) inferInstance (Ent.cons (ou k1 k2 h3 k4))
end
abbrev wy : Tm := ⟨[false, false, false, false], 0, []⟩
abbrev lX : List Nat := [0, 0, 0, 0, 0, 4, 0]
abbrev uR : List Li := List.replicate 8 default
theorem a5d {b R} : Ent (pt b (ag [eg, .bool true] 276) :: R) (bG b [] :: R) :=
  (Ent.cons (eX (E := 278) (sz := 7) (A := R) (B := R))).trans (fH (R := R) (C := [_, _]) ⟨none, 0, rfl⟩)
theorem FK {fr pg} (a : cB fr) (b : Pgs pg) (c : PlOk fr.length pg) : MOk fr pg 0 [] [] := ⟨a, by decide, b, c, TI.nil, fun x d => by simp at d⟩
abbrev FL (x : Bd) (q0 q1 q2 i pv ps pm : Nat) (fr : List aB) (pg : List Pl) (R : List HP) : List HP := pt x.r (dD (List.replicate 16 0) 0) :: pt x.c (dZ lX i) :: gZ x.m ⟨pv, ps, pm, 0, fr, pg⟩ :: lw x.v (uR, 0) :: lx x.t wy :: pt q0 (qO true bT) :: pt q1 (qO true bT) :: pt q2 (qO true bT) :: R
abbrev Mt (x : Bd) (bt bs q0 q1 q2 i pv ps pm : Nat) (pg : List Pl) (R : List HP) : List HP := pt x.r (dD (List.replicate 16 0) 0) :: pt x.c (dZ lX i) :: pt x.m (cD pv bt bs) :: aU bt ([], cX 4 0) :: bG bs [] :: pt pv (bW ps pm 0) :: pt pm (bB pg) :: lw x.v (uR, 0) :: lx x.t wy :: pt q0 (qO true bT) :: pt q1 (qO true bT) :: pt q2 (qO true bT) :: R
theorem FM {x bt bs q0 q1 q2 i pv ps pm pg R} : Ent (rR x i bt bs pv (kH 6 (cv [pt q0 (qO true bT), pt q1 (qO true bT), pt q2 (qO true bT)]) :: pt pv (bW ps pm 0) :: pt pm (bB pg) :: R)) (Mt x bt bs q0 q1 q2 i pv ps pm pg R) := by
 refine Ent.cons (Ent.cons ?_);show Ent (pt x.m (w9 pv bt bs) :: aU bt ([], cX 4 0) :: pt bs (ag [eg, .bool true] 276) :: pt x.v uC :: pt x.t uD :: kH 6 (cv [pt q0 (qO true bT), pt q1 (qO true bT), pt q2 (qO true bT)]) :: pt pv (bW ps pm 0) :: pt pm (bB pg) :: R) _
 have a : Ent (pt x.m (w9 pv bt bs) :: aU bt ([], cX 4 0) :: pt bs (ag [eg, .bool true] 276) :: pt x.v uC :: pt x.t uD :: kH 6 (cv [pt q0 (qO true bT), pt q1 (qO true bT), pt q2 (qO true bT)]) :: pt pv (bW ps pm 0) :: pt pm (bB pg) :: R)
     (kH 6 (cv [pt q0 (qO true bT), pt q1 (qO true bT), pt q2 (qO true bT)]) :: pt bs (ag [eg, .bool true] 276) :: pt x.m (w9 pv bt bs) :: aU bt ([], cX 4 0) :: pt pv (bW ps pm 0) :: pt pm (bB pg) :: pt x.v uC :: pt x.t uD :: R) := inferInstance
 refine a.trans ((sk (A := [pt q0 (qO true bT), pt q1 (qO true bT), pt q2 (qO true bT)])).trans ?_);refine Ent.trans (B := pt q0 (qO true bT) :: pt q1 (qO true bT) :: pt q2 (qO true bT) :: bG bs [] :: pt x.m (w9 pv bt bs) :: aU bt ([], cX 4 0) :: pt pv (bW ps pm 0) :: pt pm (bB pg) :: pt x.v uC :: pt x.t uD :: R) (Ent.cons (Ent.cons (Ent.cons a5d))) ?_;refine Ent.trans (B := pt x.m (cD pv bt bs) :: aU bt ([], cX 4 0) :: bG bs [] :: pt pv (bW ps pm 0) :: pt pm (bB pg) :: pt x.v uC :: pt x.t uD :: pt q0 (qO true bT) :: pt q1 (qO true bT) :: pt q2 (qO true bT) :: R) inferInstance ?_;refine Ent.cons (Ent.cons (Ent.cons (Ent.cons (Ent.cons ?_))));refine Ent.trans (B := pt x.v (ag ((dF uR 0).set 32 eg) 177) :: pt x.t (ag ((eM [false, false, false, false] 0).set 0 eg) 183) :: pt q0 (qO true bT) :: pt q1 (qO true bT) :: pt q2 (qO true bT) :: R) ent_refl ?_;exact a4l.trans (Ent.cons a4K)
theorem a5e {x bt bs q0 q1 q2 i pv ps pm fr pg R} (h : MOk fr pg 0 [] []) : Ent (rR x i bt bs pv (kH 6 (cv [pt q0 (qO true bT), pt q1 (qO true bT), pt q2 (qO true bT)]) :: pt pv (bW ps pm 0) :: pt pm (bB pg) :: R)) (FL x q0 q1 q2 i pv ps pm fr pg R) :=
  FM.trans (Ent.cons (Ent.cons (ou (bud := 0) Rep.nil (QaF _) (Qam _) h)))
abbrev s0 (g : Gu) : Gu := ⟨⟨List.replicate 16 0, 0, lX⟩, bT, bT, bT, uR, 0, wy, false, [0, 0, 0, 0], g.clock, g.es, 0⟩
abbrev fe (g : Gu) : Gu := oy (s0 g) 5 0 0 0
def gC (i n : Nat) (ws : List Nat) (x : Mm) : Mm := rX (ci i (aZ ws n) n ⟨(cr i 8 x).fr, (cr i 8 x).po, (cr i 8 x).pg⟩)
theorem FN {i x} (h : GMem i x) (a : i < 16) : ∀ n, n ≤ 8 → ∀ t, t < n → aK (cr i n x).pg t = false
 | 0, _, t, b => absurd b (QbF t)
 | n + 1, d, t, b => by
  have c := h.strip a n (by omega);rw [cr, k0];by_cases q : aK (cr i n x).pg n = true;rw [Qad q];show aK (eZ (cr i n x).pg n) (t : Nat) = false;rw [yL c.pg.len];by_cases e : t = n;subst e; simp;rw [FN h a n (by omega) t (by omega)]; rfl;rw [Qaa q];by_cases e : t = n;grind;exact FN h a n (by omega) t (by omega)
theorem yP {i x} (h : GMem i x) (a : i < 16) : pK (cr i 8 x).pg 0 8 := fun t _ b => FN h a 8 (Qam _) t b
def lY (i : Nat) (po : Po) : Nat := ((List.range po.length).filter fun f => (d6 po f).1 == (i : Int)).length
theorem yQ {i x} (h : GMem i x) (c : i < 16) : ∀ n, n ≤ 8 → (cr i n x).po.length = x.po.length ∧ ∀ f, (d6 (cr i n x).po f).1 = (d6 x.po f).1
 | 0, _ => ⟨rfl, fun _ => rfl⟩
 | n + 1, o => by
  obtain ⟨e, g⟩ := yQ h c n (by omega);have d := h.strip c n (by omega);rw [cr, k0];split
  rename_i q
  obtain ⟨f, j, l, a⟩ := d.at_ q;have m := d.own n (by omega) q;rw [j, Qae] at m;have b : (nh i n (cr i n x)).po = (cr i n x).po.set f ((i : Int), false) := by grind [nh]
  rw [b];refine ⟨by rw [Qap]; exact e, fun k => ?_⟩;rw [jV a];split;grind;exact g k;grind
attribute [local irreducible] cr
theorem BE {i x} (h : GMem i x) (a : i < 16) : (bN (cr i 8 x).po i).length = lY i x.po := by
 have c := h.strip a 8 (Qam _);obtain ⟨d, g⟩ := yQ h a 8 (Qam _);have j := yP h a;unfold lY bN;rw [d];refine Qai List.length (Qcv fun f m => ?_);have b : f < (cr i 8 x).po.length := by grind
 rw [← g f, Qag, QaZ, QaZ];constructor;grind;intro e
 cases k : (d6 (cr i 8 x).po f).2 with
 | false => rw [← e, ← k]
 | true =>
  obtain ⟨t, l, q, _⟩ := c.all f b (by grind);rw [j t (QaF _) l] at q;cases q
theorem GMem.anew {i n ws x} (h : GMem i x) (a : i < 16) (b : n ≤ 8) (d : n ≤ lY i x.po) : GMem i (gC i n ws x) := by
 have c := h.strip a 8 (Qam _);exact GMem.lay (x := ⟨(cr i 8 x).fr, (cr i 8 x).po, (cr i 8 x).pg⟩) c a (yP h a) n b (by grind [BE])
section
variable (W0 : World) (R : List HP) (gb : Nat) (z : Gz) (g : Gu) (N : Nat)
theorem Mv (hc : CfK W0 z.c) (hr : rt z.c = true) (hi : z.i < z.c.gl.length) (hk : g.clock < 1000000000) x (h : GMem z.i x) (h0 : 0 < x.po.length) (n : Nat) (hn : (cT z.c z.i).2.1 = n) (hpar : n ≤ lY z.i x.po) a cap ws (hw : z.wv = .slice a ws.length cap) (hs : ∀ A, Ent A R → cG (aQ W0 A) a 1 iP ws) (hb : ∀ y ∈ ws, y < 4294967296) (hwl : ws.length ≤ 128) : sP W0 19 [pV gb] (pt gb (cH z g) :: fJ z.tr g.es :: gZ z.x.m ⟨z.pv, z.ps, z.pm, g.bud, x.fr, x.pg⟩ :: cR z.pb (z.ps, x.po) :: aY z.ps x.fr :: R) (fun v B => ∃ y bt2 bs2 q0 q1 q2, v = iQ 0 ∧ B = pt gb (cH { z with x := y, q0 := q0, q1 := q1, q2 := q2 } (fe g)) :: fJ z.tr (fe g).es :: cR z.pb (z.ps, (gC z.i n ws x).po) :: aY z.ps (gC z.i n ws x).fr :: Mt y bt2 bs2 q0 q1 q2 z.i z.pv z.ps z.pm (gC z.i n ws x).pg R) := by
 have I := jC hr;have O := I.g4;have D := I.gs z.i hi;rw [hn] at D;obtain ⟨J, o, E, f⟩ := (hc.ok.g []).at_ hi;obtain ⟨u, P⟩ : ∃ u, z.c.gl[z.i] = u := ⟨_, rfl⟩
 have K : cT z.c z.i = u := by grind [cT]
 rw [P] at f;have F : u.2.1 = (n : Int) := by grind
 have l := h.strip (show z.i < 16 by omega) 8 (Qam _);have p := yP h (show z.i < 16 by omega);have M := BE h (show z.i < 16 by omega);have s := h.anew (n := n) (ws := ws) (show z.i < 16 by omega) (by omega) hpar;have G : ImOk ⟨(cr z.i 8 x).fr, (cr z.i 8 x).po, (cr z.i 8 x).pg⟩ := ⟨l.fr, l.po, l.pg, l.len⟩
 have Q := (yQ h (show z.i < 16 by omega) 8 (Qam _)).1;obtain ⟨r, t⟩ : ∃ y, ci z.i (aZ ws n) n ⟨(cr z.i 8 x).fr, (cr z.i 8 x).po, (cr z.i 8 x).pg⟩ = y := ⟨_, rfl⟩
 have H : gC z.i n ws x = rX r := by rw [gC, t]
 rw [H] at s ⊢;refine lK (B := gZ z.x.m ⟨z.pv, z.ps, z.pm, g.bud, x.fr, x.pg⟩ :: pt gb (cH z g) :: fJ z.tr g.es :: cR z.pb (z.ps, x.po) :: aY z.ps x.fr :: R) qe (qT fun X Y S T L U d Z h2 h3 V => ?_);have hx : bC (aQ W0 (pt gb (cH z g) :: R)) J (o + z.i * 3) (ig u) := f.weak;refine am func19 ntmps19 ?_;refine ah (ap lD (l5 W0 _ gb z g)) ?_;refine bq [gb] 10 fun b => ?_;refine aj 0 8 b ?_;refine cg 8 (ap sg (qt z.pv z.ps z.pm d)) fun b => ?_;refine cj 9 (cM call75 (a45 z.pb z.ps z.pm z.i x h (by omega))) ?_; clear b;rintro _ C ⟨q, rfl, e⟩;obtain rfl := e.symm;refine ⟨aT, fun b => ?_⟩;refine aJ ?_;refine fj [(gb, 0, ly z g), (J, o + z.i * 3, ig u)] 36 mixed rfl (bQ (bU f.weak bH)) (fun b => ?_);refine aj 0 8 b ?_;refine aj 9 4 b ?_;refine aj 14 13 b ?_;refine ax 27 b (eB np l9 rfl E rfl rfl hi (by first | exact Qac _ | rfl)) ?_;refine aj 28 1 b ?_;refine ax 29 b (aE (kJ (j := 1) (k := 1) (v := iQ n) rfl (by rw [← F]; rfl))) ?_;refine aj 30 3 b ?_;refine ax 33 b (aE (dm (k := 0) (v := .slice a ws.length cap) rfl (by rw [← hw]; rfl))) ?_;refine gy 8 rfl rfl (ap OA (Dx z.pv z.ps z.pm d)) (bQ (bU f.weak bH)) fun b => ?_;refine gy 13 rfl rfl (ap sg (qt z.pv z.ps z.pm d)) (bQ (bU f.weak bH)) fun b => ?_;refine cj 34 (cM call76 (JL z.pb z.ps z.pm z.i n ⟨(cr z.i 8 x).fr, (cr z.i 8 x).po, (cr z.i 8 x).pg⟩ G (by have := l.len; show 0 < (cr z.i 8 x).fr.length; omega) a cap ws (by omega) (by omega) (by omega) p (by grind) (by intro A K; exact hs A (K.trans inferInstance)) hb (by omega))) ?_; clear b;rintro _ C ⟨rfl, e⟩;obtain rfl := e.symm;rw [t];refine ⟨(bQ (bU f.weak bH)), fun b => ?_⟩;refine aj 35 1 b ?_;refine aJ ?_;refine ai (fun N => ?_) fun N => ?_;exact absurd rfl N;refine aD rfl (ap call78 (IJ z.pv z.ps z.pm d V.dl)) ?_;rintro _ C ⟨da, dc, rfl, e⟩;obtain rfl := e.symm;refine aw ?_;refine bq [gb] 15 fun b => ?_;refine aj 0 8 b ?_;refine fG (is := [8, 12]) (by kernel_rfl) rfl ⟨?_, ?_, trivial⟩;refine dy (ap Oi (EI z.i z.pv z.ps z.pm 0 (by omega))) ?_; clear b;rintro _ C ⟨y, bt2, bs2, q0, q1, q2, rfl, e⟩;obtain rfl := e.symm;refine ⟨aT, fun b => ?_⟩;refine aj 9 3 b ?_;refine cj 12 (dx NV) ?_; clear b;rintro _ _ ⟨W, rfl, rfl⟩;refine ⟨aT, fun b => ?_⟩;refine cp 13 aF fun b => ?_;refine aj 14 1 b ?_;refine aJ ?_;refine ai (fun w => ?_) fun w => ?_;exact absurd rfl w;refine ar (iH (Qab rfl) (by exact rfl : d7 (ly z g) 0 (AZ y q0 q1 q2) = ly { z with x := y, q0 := q0, q1 := q1, q2 := q2 } (s0 g))) ?_;refine ah (cM v9 (tx W0 _ gb { z with x := y, q0 := q0, q1 := q1, q2 := q2 } (s0 g) hk rfl 5 0 0 0)) ?_;refine ac ?_;refine ⟨_, ⟨y, bt2, bs2, q0, q1, q2, rfl, rfl⟩, ?_⟩;refine Ent.trans (B := pt gb (cH { z with x := y, q0 := q0, q1 := q1, q2 := q2 } (fe g)) :: fJ z.tr (fe g).es :: cR z.pb (z.ps, r.po) :: aY z.ps r.fr :: rR y z.i bt2 bs2 z.pv (kH 6 (cv [pt q0 (qO true bT), pt q1 (qO true bT), pt q2 (qO true bT)]) :: pt z.pv (bW z.ps z.pm 0) :: pt z.pm (bB r.pg) :: R)) inferInstance ?_;exact Ent.cons (Ent.cons (Ent.cons (Ent.cons FM)));skip;refine dy (dx NV) ?_; clear b
 rintro _ _ ⟨W, rfl, rfl⟩;refine ⟨aT, fun b => ?_⟩;refine cj 8 (ap Oi (EI z.i z.pv z.ps z.pm 0 (by omega))) ?_; clear b;rintro _ C ⟨y, bt2, bs2, q0, q1, q2, rfl, e⟩;obtain rfl := e.symm;refine ⟨aT, fun b => ?_⟩;refine aj 9 3 b ?_;refine cp 13 aF fun b => ?_;refine aj 14 1 b ?_;refine aJ ?_;refine ai (fun w => ?_) fun w => ?_;exact absurd rfl w;refine ar (iH (Qab rfl) (by exact rfl : d7 (ly z g) 0 (AZ y q0 q1 q2) = ly { z with x := y, q0 := q0, q1 := q1, q2 := q2 } (s0 g))) ?_;refine ah (cM v9 (tx W0 _ gb { z with x := y, q0 := q0, q1 := q1, q2 := q2 } (s0 g) hk rfl 5 0 0 0)) ?_;refine ac ?_;refine ⟨_, ⟨y, bt2, bs2, q0, q1, q2, rfl, rfl⟩, ?_⟩;refine Ent.trans (B := pt gb (cH { z with x := y, q0 := q0, q1 := q1, q2 := q2 } (fe g)) :: fJ z.tr (fe g).es :: cR z.pb (z.ps, r.po) :: aY z.ps r.fr :: rR y z.i bt2 bs2 z.pv (kH 6 (cv [pt q0 (qO true bT), pt q1 (qO true bT), pt q2 (qO true bT)]) :: pt z.pv (bW z.ps z.pm 0) :: pt z.pm (bB r.pg) :: R)) inferInstance ?_;exact Ent.cons (Ent.cons (Ent.cons (Ent.cons FM)))
theorem a5f (hc : CfK W0 z.c) (hr : rt z.c = true) (hi : z.i < z.c.gl.length) (hk : g.clock < 1000000000) x (h : GMem z.i x) (h0 : 0 < x.po.length) (n : Nat) (hn : (cT z.c z.i).2.1 = n) (hpar : n ≤ lY z.i x.po) a cap ws (hw : z.wv = .slice a ws.length cap) (hs : ∀ A, Ent A R → cG (aQ W0 A) a 1 iP ws) (hb : ∀ y ∈ ws, y < 4294967296) (hwl : ws.length ≤ 128) : sP W0 19 [pV gb] (pt gb (cH z g) :: fJ z.tr g.es :: gZ z.x.m ⟨z.pv, z.ps, z.pm, g.bud, x.fr, x.pg⟩ :: cR z.pb (z.ps, x.po) :: aY z.ps x.fr :: R) (fun v B => ∃ y q0 q1 q2, v = iQ 0 ∧ B = pt gb (cH { z with x := y, q0 := q0, q1 := q1, q2 := q2 } (fe g)) :: fJ z.tr (fe g).es :: cR z.pb (z.ps, (gC z.i n ws x).po) :: aY z.ps (gC z.i n ws x).fr :: FL y q0 q1 q2 z.i z.pv z.ps z.pm (gC z.i n ws x).fr (gC z.i n ws x).pg R) := by
 have e := jC hr;have f := e.g4;have d := e.gs z.i hi;rw [hn] at d;have b := h.anew (n := n) (ws := ws) (show z.i < 16 by omega) (by omega) hpar;refine ge (Mv W0 R gb z g hc hr hi hk x h h0 n hn hpar a cap ws hw hs hb hwl) fun v B j => ?_;obtain ⟨y, k, l, q0, q1, q2, rfl, rfl⟩ := j;exact ⟨_, ⟨y, q0, q1, q2, rfl, rfl⟩, Ent.cons (Ent.cons (Ent.cons (Ent.cons (Ent.cons (Ent.cons (ou (bud := 0) Rep.nil (QaF _) (Qam _) (FK b.fr b.pg b.pl)))))))⟩
end
theorem yR t : aK iz t = false := by
 cases q : aK iz t with
 | false => rfl
 | true =>
  have h := q;simp only [aK, Qao] at h;obtain ⟨k, rfl, a⟩ := kM h.1;have : k = 0 ∨ k = 1 ∨ k = 2 ∨ k = 3 ∨ k = 4 ∨ k = 5 ∨ k = 6 ∨ k = 7 ∨ k = 8 ∨ k = 9 ∨ k = 10 ∨ k = 11 := by omega
  rcases this with rfl | rfl | rfl | rfl | rfl | rfl | rfl | rfl | rfl | rfl | rfl | rfl <;> exact absurd q (by decide)
theorem GMem.none {i : Nat} {fr po} (b : cB fr) (c : PoOk po) (d : po.length = fr.length) (g : ∀ f, f < po.length → d6 po f ≠ ((i : Int), true)) (h : ∀ f, f < po.length → d6 po f = ((i : Int), false) → fr.getD f [] = cm) : GMem i ⟨fr, iz, po⟩ :=
  ⟨b, c, yh, d, ⟨fun t a => absurd a (by rw [yR]; decide), fun s t j => absurd j (by rw [yR]; decide)⟩, fun t _ a => absurd a (by rw [yR]; decide), fun f k e => absurd e (g f k), fun t _ a => absurd a (by rw [yR]; decide), h⟩
theorem a5g {who i words x} : (jz who words x i).po.length = x.po.length ∧ (∀ f, (d6 (jz who words x i).po f).1 = (d6 x.po f).1) := by
 unfold jz
 cases e : bN x.po who with
 | nil => exact ⟨rfl, fun _ => rfl⟩
 | cons f l =>
  have a := kB.1 (show f ∈ bN x.po who by rw [e]; simp);refine ⟨Qap .., fun k => ?_⟩;dsimp only;rw [jV a.1];split;grind;rfl
theorem yS {who words x} : ∀ n, (ci who words n x).po.length = x.po.length ∧ (∀ f, (d6 (ci who words n x).po f).1 = (d6 x.po f).1)
 | 0 => ⟨rfl, fun _ => rfl⟩
 | n + 1 => by
  obtain ⟨a, b⟩ := yS (who := who) (words := words) (x := x) n;obtain ⟨c, d⟩ := a5g (who := who) (i := n) (words := words) (x := ci who words n x);exact ⟨c.trans a, fun f => (d f).trans (b f)⟩
theorem BF {who words x} : ∀ n, n ≤ 8 → ∀ t : Nat, 8 ≤ t → aK (ci who words n x).pg t = aK x.pg t
 | 0, _, _, _ => rfl
 | n + 1, b, t, a => by
  rw [ci, jz]
  cases e : bN (ci who words n x).po who with
  | nil => exact BF n (by omega) t a
  | cons f l =>
   dsimp only;unfold dO;split;rw [Qae, (g5 (by omega)).1];exact BF n (by omega) t a;exact BF n (by omega) t a
theorem GMem.ring {i k fr pg po f r} (h : GMem i ⟨fr, pg, po⟩) (w : k < 4) (d : aK pg (8 + k : Nat) = false) (x : f < fr.length) (y : 1 ≤ r ∧ r ≤ 3) (z : (d6 po f).1 ≠ i) (s : ∀ t, aK pg t = true → (bF pg t).1 ≠ f) :
    GMem i ⟨fr, dO pg (8 + k : Nat) (f, r), po⟩ ∧ (∀ t, aK (dO pg (8 + k : Nat) (f, r)) t = (aK pg t || decide (t = (8 + k : Nat)))) ∧ (∀ t, t ≠ ((8 + k : Nat) : Int) → bF (dO pg (8 + k : Nat) (f, r)) t = bF pg t) ∧ bF (dO pg (8 + k : Nat) (f, r)) (8 + k : Nat) = ((f : Int), r) := by
 have l : f < 32 := by have := h.po.len; have := h.len; dsimp only at *; omega
 have A : fW pg ((8 + k : Nat) : Int) ((f : Int), r) = 0 := by
  rw [fW, Qad ⟨Qah (by omega), Qah (by omega)⟩, d]; rfl
 have m : dO pg ((8 + k : Nat) : Int) ((f : Int), r) = pg.set (8 + k) ((f : Int), r) := by grind [dO]
 have b : (((f : Int), r) : Pl) ≠ (0, 0) := fun e => by have := (Qcy e).2; omega
 have u := yB (p := ((f : Int), r)) h.pg.len (show 8 + k < 12 by omega) b;have a : ∀ t, aK (pg.set (8 + k) ((f : Int), r)) t = (aK pg t || decide (t = ((8 + k : Nat) : Int))) := fun t => by
  by_cases e : t = ((8 + k : Nat) : Int);grind;grind [g5]
 rw [m];refine ⟨⟨h.fr, h.po, ?_, h.len, h.pl.set h.pg.len (by omega) b (by grind) s, fun t c q => ?_, fun g j q => ?_, fun t c q => ?_, h.nul⟩, a, fun t e => (g5 e).2, u.2⟩;have := vJ (n := ((8 + k : Nat) : Int)) (p := ((f : Int), r)) h.pg
 rwa [m] at this
 have e : (t : Int) ≠ ((8 + k : Nat) : Int) := by omega
 dsimp only at q ⊢;rw [a, Qal e, QcL] at q;rw [(g5 e).2];exact h.own t c q;obtain ⟨t, c, o, v⟩ := h.all g j q;have e : (t : Int) ≠ ((8 + k : Nat) : Int) := by omega
 exact ⟨t, c, by dsimp only; rw [a]; dsimp only at o; rw [o]; rfl, by dsimp only; rw [(g5 e).2]; exact v⟩;dsimp only at q ⊢;by_cases e : (t : Int) = ((8 + k : Nat) : Int);grind;rw [a, Qal e, QcL] at q;rw [(g5 e).2];exact h.far t c q
theorem GMem.rings {c i fr pg po} (n : rt c = true) (h : GMem i ⟨fr, pg, po⟩) (a : ∀ t : Nat, 8 ≤ t → aK pg t = false) (b : Nat) (u : eh c c.gl.length = b) (g : ∀ k, k < c.nl.length → (d6 po (b + k)).1 ≠ i) (v : b + c.nl.length ≤ fr.length) :
    ∀ k, k ≤ c.nl.length → GMem i ⟨fr, eC c i k pg, po⟩ ∧ (∀ t : Nat, 8 ≤ t → aK (eC c i k pg) t = true → t < 8 + k ∧ (bF (eC c i k pg) t).1 = (b + (t - 8) : Nat)) ∧ (∀ t : Nat, t < 8 → aK (eC c i k pg) t = aK pg t ∧ bF (eC c i k pg) t = bF pg t)
 | 0, _ => ⟨h, fun t d q => absurd (show aK pg t = true from q) (by grind), fun t _ => ⟨rfl, rfl⟩⟩
 | k + 1, A => by
  obtain ⟨o, w, B⟩ := h.rings n a b u g v k (by omega);have x := (jC n).nn;rw [eC];split;grind
  rename_i C
  have j : lP c (k : Int) = ((b + k : Nat) : Int) := by grind [lP]
  have l : 1 ≤ lR (mm c k) i ∧ lR (mm c k) i ≤ 3 := by
   grind [lR]
  have m : aK (eC c i k pg) ((8 + k : Nat) : Int) = false := by
   cases q : aK (eC c i k pg) ((8 + k : Nat) : Int) with
   | false => rfl
   | true => have := (w (8 + k) (by omega) q).1; omega
  rw [j];obtain ⟨y, z, D, E⟩ := o.ring (k := k) (f := b + k) (r := lR (mm c k) i) (by omega) m (by omega) l (g k (by omega)) fun t q e => by
   have p := q;simp only [aK, Qao] at p;obtain ⟨s, rfl, F⟩ := kM p.1;rcases QaC s 8 with d | d;have := o.own s d q;dsimp only at this;rw [e, Qae] at this;exact g k (by omega) (by rw [this]);grind
  refine ⟨y, fun t d q => ?_, fun t d => ?_⟩;rw [z] at q;by_cases e : (t : Int) = ((8 + k : Nat) : Int);grind;grind;grind
def hZ (c : Cfg) (i : Nat) (ws : List Nat) (fr : List aB) (po : Po) : Mm := ⟨(laid c i ws fr po).fr, eC c i c.nl.length (laid c i ws fr po).pg, (laid c i ws fr po).po⟩
theorem a5h {c i ws fr po} (a : cB fr) (b : PoOk po) (d : po.length = fr.length) (e : i < 16) : (laid c i ws fr po).fr.length = fr.length := by
 have g := (ut (who := i) (words := aZ ws (cT c i).2.1.toNat) (x := ⟨fr, po, iz⟩) e (n := (cT c i).2.1.toNat) ⟨a, b, yh, d⟩).len;have f := (yS (who := i) (words := aZ ws (cT c i).2.1.toNat) (x := ⟨fr, po, iz⟩) (cT c i).2.1.toNat).1;have h : (ci i (aZ ws (cT c i).2.1.toNat) (cT c i).2.1.toNat ⟨fr, po, iz⟩).po.length = po.length := f;unfold laid;omega
theorem GMem.made {c i ws fr po} (g : rt c = true) (o : i < c.gl.length) (h : cB fr) (j : PoOk po) (l : po.length = fr.length) (m : (cT c i).2.1 ≤ ((bN po i).length)) (p : ∀ f, f < po.length → d6 po f ≠ ((i : Int), true)) (q : ∀ f, f < po.length → d6 po f = ((i : Int), false) → fr.getD f [] = cm)
    (r : ∀ b k : Nat, eh c c.gl.length = b → k < c.nl.length → (d6 po (b + k)).1 ≠ i) (C : fr.length = bI c) : GMem i (hZ c i ws fr po) := by
 have a := jC g;have s := a.g4;have u := a.gs i o;have v := GMem.none h j l p q;have d := GMem.lay (words := aZ ws (cT c i).2.1.toNat) (x := ⟨fr, po, iz⟩) v (show i < 16 by omega) B4 (cT c i).2.1.toNat (by omega) (by grind);have w := sX a.gs c.gl.length (Qam _);obtain ⟨b, n⟩ : ∃ b : Nat, eh c c.gl.length = (b : Int) := ⟨(eh c c.gl.length).toNat, by omega⟩
 have y := a5h (ws := ws) (c := c) h j l (show i < 16 by omega);have z := uz c c.gl.length;have e : b + c.nl.length ≤ (laid c i ws fr po).fr.length := by grind [bI]
 exact (d.rings g (fun t A => by
  show aK (ci i (aZ ws (cT c i).2.1.toNat) (cT c i).2.1.toNat ⟨fr, po, iz⟩).pg t = false
  rw [BF _ (by omega) t A]; exact yR _) b n (fun k B => by
  show (d6 (ci i (aZ ws (cT c i).2.1.toNat) (cT c i).2.1.toNat ⟨fr, po, iz⟩).po (b + k)).1 ≠ _
  rw [(yS _).2]; exact r b k n B) e c.nl.length (Qam _)).1
abbrev g0 : Gu := ⟨⟨List.replicate 16 0, 0, lX⟩, bT, bT, bT, uR, 0, wy, false, [0, 0, 0, 0], 0, [], 0⟩
abbrev gA (gb : Nat) (z : Gz) (g : Gu) (x : Mm) (R : List HP) : List HP := pt gb (cH z g) :: pt z.x.r (dD g.c.rl g.c.pc) :: pt z.x.c (dZ g.c.cs z.i) :: fJ z.tr g.es :: lw z.x.v (g.ls, g.ln) :: lx z.x.t g.tm :: gZ z.x.m ⟨z.pv, z.ps, z.pm, g.bud, x.fr, x.pg⟩ :: pt z.q0 (qO true g.qa) :: pt z.q1 (qO true g.qb) :: pt z.q2 (qO true g.qc) :: R
theorem a5i W0 R c (h : CfK W0 c) (r : rt c = true) i (s : i < c.gl.length) ps pb fr po (t : cB fr) (u : PoOk po) (w : po.length = fr.length) (C : 0 < fr.length) (g : (cT c i).2.1 ≤ ((bN po i).length))
    a cap ws (D : ∀ A, cG (aQ W0 A) a 1 iP ws) (E : ∀ y ∈ ws, y < 4294967296) (F : ws.length < 9223372036854775808) (q : GMem i (hZ c i ws fr po)) :
    bE Tryz.prog W0 40 [.agg (dC c).toArray, .int .i64 i, pV ps, pV pb, .slice a ws.length cap] (cR pb (ps, po) :: aY ps fr :: R)
      (fun v B => ∃ e z b, v = .tuple #[pV e, .int .i64 0] ∧ z.c = c ∧ z.i = i ∧ z.ps = ps ∧ z.pb = pb ∧ z.wv = .slice (some ⟨b, 0, none⟩) (aZ ws 8).length (aZ ws 8).length ∧ B = gA e z g0 (hZ c i ws fr po) (pt z.bx sY :: pt b (ag ((aZ ws 8).map wV) 38) :: cR pb (ps, (hZ c i ws fr po).po) :: aY ps (hZ c i ws fr po).fr :: R)) := by
 refine ge (a07 c h r i s ps pb fr po t u w C g a cap ws D E F) fun v B G => ?_;obtain ⟨e, x, H, I, j, k, l, b, f, n, o, p, rfl, rfl⟩ := G;refine ⟨_, ⟨e, ⟨x, j, k, l, f, ps, n, pb, o, p, .slice (some ⟨b, 0, none⟩) (aZ ws 8).length (aZ ws 8).length, i, c⟩, b, rfl, rfl, rfl, rfl, rfl, rfl, rfl⟩, ?_⟩;have J := FK q.fr q.pg q.pl;refine Ent.trans (B := pt e (ag (B5 x j k l c i (.slice (some ⟨b, 0, none⟩) (aZ ws 8).length (aZ ws 8).length) pb f o p) 149) :: rR x i H I f (kH 6 (cv [pt j (qO true bT), pt k (qO true bT), pt l (qO true bT)]) :: pt f (bW ps n 0) :: pt n (bB (eC c i c.nl.length (laid c i ws fr po).pg)) :: pt o sY :: fJ p [] :: pt b (ag ((aZ ws 8).map wV) 38) :: cR pb (ps, (laid c i ws fr po).po) :: aY ps (laid c i ws fr po).fr :: R)) inferInstance ?_;refine (Ent.cons (a5e J)).trans ?_;obtain ⟨m, d⟩ : ∃ m, hZ c i ws fr po = m := ⟨_, rfl⟩
 have K : (laid c i ws fr po).fr = m.fr := by rw [← d]; rfl
 have L : eC c i c.nl.length (laid c i ws fr po).pg = m.pg := by rw [← d]; rfl
 have M : (laid c i ws fr po).po = m.po := by rw [← d]; rfl
 rw [d, K]
 try rw [L]
 try rw [M]
 exact Ent.trans (B := pt e (cH ⟨x, j, k, l, f, ps, n, pb, o, p, .slice (some ⟨b, 0, none⟩) (aZ ws 8).length (aZ ws 8).length, i, c⟩ g0) :: FL x j k l i f ps n m.fr m.pg (pt o sY :: fJ p [] :: pt b (ag ((aZ ws 8).map wV) 38) :: cR pb (ps, m.po) :: aY ps m.fr :: R)) ent_refl inferInstance
@[reducible] def ka (p s b1 b2 b3 : Nat) : Cfg := ⟨1, some ⟨b1, 0, none⟩, 2, [(0, (p : Int), (s : Int)), (1, 2, 0)], none, 0, [], none, 0, [], some ⟨b2, 0, none⟩, 1, [(0, 1)], some ⟨b3, 0, none⟩, 1, [(0, 1)], -1, 0⟩
abbrev Mw (p s b1 b2 b3 : Nat) (R : List HP) : List HP := pt b1 (ag ([(0, (p : Int), (s : Int)), (1, 2, 0)].flatMap ig) 92) :: pt b2 (ag ([((0 : Int), (1 : Int))].flatMap jk) 94) :: pt b3 (ag ([((0 : Int), (1 : Int))].flatMap jk) 96) :: R
def l6 (pages : Nat) : Nat := 2 + pages % 6
def pR (pages spare : Nat) : Nat := spare % (8 - l6 pages + 1)
theorem Mx n : 2 ≤ l6 n ∧ l6 n ≤ 7 := by unfold l6; omega
theorem a5j n m : pR n m ≤ 8 - l6 n := by
 have := Qce m (show 0 < 8 - l6 n + 1 by omega);unfold pR; omega
theorem My : ∀ p, p < 8 → 2 ≤ p → ∀ s, s < 8 → s ≤ 8 - p → ∀ c d e, rt (ka p s c d e) = true := by
 intro p f g s h i c d e;have a : p = 2 ∨ p = 3 ∨ p = 4 ∨ p = 5 ∨ p = 6 ∨ p = 7 := by omega
 have b : s = 0 ∨ s = 1 ∨ s = 2 ∨ s = 3 ∨ s = 4 ∨ s = 5 ∨ s = 6 := by omega
 rcases a with rfl | rfl | rfl | rfl | rfl | rfl <;> rcases b with rfl | rfl | rfl | rfl | rfl | rfl | rfl <;> first | (exfalso; omega) | (show rt _ = true; kernel_rfl)
theorem FO (pages spare : Nat) (hp : pages < 256) (hs : spare < 256) : sP W0 5 [.int .u8 pages, .int .u8 spare] R (fun v B => ∃ b1 b2 b3, v = .agg (dC (ka (l6 pages) (pR pages spare) b1 b2 b3)).toArray ∧ B = Mw (l6 pages) (pR pages spare) b1 b2 b3 R) := by
 have a := Mx pages;refine am func5 ntmps5 ?_;refine bj fun b1 => ?_;refine aa (dT rfl rfl (by decide) (iJ pages 6)) ?_;refine aa (bD (co (by omega))) ?_;refine aa (db rfl rfl (by rw [co (by omega)]; unfold l6; omega : IntKind.wrap .i64 (2 + ((pages % 6 : Nat) : Int)) = ((l6 pages : Nat) : Int))) ?_;refine aa (bD (co (by omega))) ?_;refine aa gF ?_;refine aa (dU (8 - l6 pages + 1)) ?_;refine aa (dT rfl rfl (by omega) (iJ spare (8 - l6 pages + 1))) ?_;refine dt (iG np l9 a8x rfl (fm rfl rfl (fm rfl rfl i5)) rfl (by decide) (by decide) (by decide)) fun b1 => ?_;refine dt (iG zn zi a8y rfl (fm rfl rfl i5) rfl (by decide) (by decide) (by decide)) fun b2 => ?_;refine dt (iG NO NI a8z rfl (fm rfl rfl i5) rfl (by decide) (by decide) (by decide)) fun b3 => ?_;refine ar aF ?_;refine gi (b := b1) (o' := ag ([(0, ((l6 pages : Nat) : Int), ((pR pages spare : Nat) : Int)), (1, 2, 0)].flatMap ig) 92) rfl ?_;refine gi (b := b2) (o' := ag ([((0 : Int), (1 : Int))].flatMap jk) 94) rfl ?_;refine gi (b := b3) (o' := ag ([((0 : Int), (1 : Int))].flatMap jk) 96) rfl ?_;refine aV (.cons (bi Gh v4 rfl rfl) .nil) ?_;exact ⟨_, ⟨b1, b2, b3, rfl, rfl⟩, IO⟩
theorem FP {W0 W p s b1 b2 b3 R} (a : Own W0 W (Mw p s b1 b2 b3 R)) : CfK W (ka p s b1 b2 b3) :=
  ⟨⟨ux a (rB (b := b1) (fun _ => rfl) rfl), fun _ => Dh, fun _ => Dh, ux a (rB (b := b2) (fun _ => rfl) rfl), ux a (rB (b := b3) (fun _ => rfl) rfl), Qam _⟩, Qam _⟩
theorem FQ {c} (l : rt c = true) {i} (h : i < c.gl.length) ws : GMem i (hZ c i ws (List.replicate (bI c) cm) (dv c (bI c))) := by
 have d := jC l;have g : (List.replicate (bI c) cm).length = bI c := by simp
 refine GMem.made l h (cB.new _) (y4 d _) (by rw [nK, g]) ?_ (fun f a e => ?_) (fun f a _ => ?_) (fun b k p r e => ?_) g;have m := AS d h;have n := (d.gs i h).2.2.1;omega;rw [nK] at a;rw [uB a, Qad a] at e
 cases q : kT c f with
 | some j => rw [q] at e; have := (Qcy e).2; cases this
 | none => rw [q] at e; have := (Qcy e).2; cases this
 grind [nK];have o := uz c c.gl.length;have a : b + k < bI c := by grind [bI]
 rw [uB a, Qad a] at e
 cases q : kT c ((b + k : Nat) : Int) with
 | some j =>
  have m := (AR d).1 q;have n := EB d (show j + 1 ≤ c.gl.length by omega) (Qam _);omega
 | none => rw [q] at e; simp [uA] at e
theorem a5k {c} (b : rt c = true) {k} (d : k < c.nl.length) : (mm c k).1 ≠ (mm c k).2 := by
 obtain ⟨_, _, _, _, _, a, _⟩ := JB b;simp only [jA, QcT] at a;have := Jz a.2 d;intro e;simp only [nJ, Bool.not_eq_false', Qao, Qaj] at this;exact this.1.2 e
abbrev dw (rl : List Nat) (pc : Nat) : Obj := ag (rl.map wV ++ [wV pc]) 234
abbrev dS (cs : List Nat) (id : Nat) : Obj := ag (cs.map wV ++ [.int .i64 id]) 353
section
variable {rl : List Nat} {pc : Nat}
theorem qW (h : rl.length = 16) : (rl.map wV ++ [wV pc]).length = 17 := by simp [h]
theorem Mz (h : rl.length = 16) {n} (a : n < 16) : (rl.map wV ++ [wV pc])[n * 1]? = some (wV (bL rl n)) := by
 have : n < rl.length := by omega
 rw [QaB, QaA (by grind)];simp [bL, List.getD, this]
theorem oA (h : rl.length = 16) : (rl.map wV ++ [wV pc])[16]? = some (wV pc) := by
 grind
theorem FR (h : rl.length = 16) {n v} (a : n < 16) : (rl.map wV ++ [wV pc]).set (n * 1) (wV v) = (rl.set n v).map wV ++ [wV pc] := by
 simp_all
theorem tz (h : rl.length = 16) {v} : (rl.map wV ++ [wV pc]).set 16 (wV v) = rl.map wV ++ [wV v] := by
 simp_all
theorem uS (b n : Nat) (h : rl.length = 16) (c : n < 16) : sQ W0 309 [pV b, iQ n] (pt b (dw rl pc) :: R) (.tuple #[wV (bL rl n), iQ 0]) (pt b (dw rl pc) :: R) := by
 refine am func309 ntmps309 ?_;refine cy rfl rfl rfl (fun a => ?_) fun a => ?_;omega;refine aw ?_;refine aA rfl (fun d => ?_) fun d => ?_;omega;refine aw ?_;refine aa (ew c) ?_;refine aa (aE (aI (Mz h c))) ?_;exact az ao
theorem wz b x i (h : rl.length = 16) : sQ W0 58 [pV b, iQ i, wV x] (pt b (dw rl pc) :: R) (iQ (if gO i then 0 else 1)) (pt b (dw (if gO i then j5 rl i.toNat x else rl) pc) :: R) := by
 obtain ⟨z, c⟩ : ∃ z, gO i = z := ⟨_, rfl⟩
 rw [c];refine am func58 ntmps58 ?_;refine cz (fun a => ?_) fun a => ?_;refine ac ?_;obtain rfl : z = false := by rw [← c]; exact Qal (by omega)
 rw [Qaa QbH, Qaa QbH];exact ao;refine ai (fun d => ?_) fun d => ?_;refine ac ?_;obtain rfl : z = false := by rw [← c]; exact Qal (by omega)
 rw [Qaa QbH, Qaa QbH];exact ao;obtain rfl : z = true := by rw [← c]; exact Qah (by omega)
 obtain ⟨n, rfl⟩ : ∃ n : Nat, i = (n : Int) := ⟨i.toNat, by omega⟩
 rw [Qae, Qad (show true = true from rfl), Qad (show true = true from rfl)];refine ai (fun e => ?_) fun e => ?_;refine aa (ew (by omega)) ?_;refine ar (dq (by grind) (FR h (by omega))) ?_;refine ac ?_;rw [j5, Qaa (by omega)];exact ao;refine ac ?_;rw [j5, Qad (by omega)];exact ao
end
section
variable {cs : List Nat} {id : Nat}
theorem uT (h : CsOk cs) : (cs.map wV ++ [Value.int .i64 id]).length = 8 := by simp [h.len]
theorem tA (h : CsOk cs) {n} (a : n < 7) : (cs.map wV ++ [Value.int .i64 id])[n * 1]? = some (wV (d9 cs n)) := by
 have : n < cs.length := by rw [h.len]; exact a
 rw [QaB, QaA (by grind)];simp [d9, List.getD, this]
theorem a5l (h : CsOk cs) : (cs.map wV ++ [Value.int .i64 id])[7]? = some (iQ id) := by
 rw [Qbn (by rw [Qax, h.len]; decide), Qax, h.len]; rfl
theorem uU (h : cs.length = 7) {n v} (a : n < 7) : (cs.map wV ++ [Value.int .i64 id]).set (n * 1) (wV v) = (cs.set n v).map wV ++ [iQ id] := by
 simp_all
def FT (b : Nat) : Bool := decide (b = 1 ∨ b = 2 ∨ b = 4 ∨ b = 8)
theorem a5m : ∀ y, y < 16 → ∀ b, b < 16 → FT b = true → ((y &&& b = b) ↔ ¬ (y &&& b = 0)) := by decide +kernel
theorem a5n : ∀ b, b < 16 → 15 &&& b = b := by decide +kernel
theorem a5o x {b} (d : FT b = true) : (((x &&& b : Nat)) == (b : Int)) = (x &&& b != 0) := by
 have c : b < 16 := by have := Qar d; omega
 have h : x &&& b = (x % 16) &&& b := by
  rw [← rC (a := x) (n := 4), Nat.and_assoc, show (2 : Nat) ^ 4 - 1 = 15 from rfl, a5n b c]
 have e := a5m (x % 16) (Qce _ (by decide)) b c d;rw [← h] at e;rw [Qag, QaZ, QbO];constructor;omega;omega
theorem tB W0 R b (h : CsOk cs) k (c : FT k = true) : sQ W0 220 [pV b, wV k] (pt b (dS cs id) :: R) (.bool (kx cs k)) (pt b (dS cs id) :: R) := by
 have a : k < 4294967296 := by have := Qar c; omega
 refine am func220 ntmps220 ?_;refine aa (eW iC aW rfl rfl (i := 5) rfl (by decide) (by first | exact Qac _ | rfl)) ?_;refine aa (aE (aI (tA h (n := 5) (by decide)))) ?_;refine ae rfl (eH rfl rfl (lk (h.at_ 5) a)) ?_;refine ae rfl (aM rfl) (ae rfl (ix rfl rfl) (ae rfl (bA rfl) (aL (aH (dE (bX (.inl rfl) (.cons (aS rfl) .nil) ?_))))));exact ⟨_, ⟨Qai Value.bool (a5o _ c), rfl⟩, IO⟩
theorem MA b (h : CsOk cs) : sQ W0 221 [pV b] (pt b (dS cs id) :: R) (.bool (d9 cs 1 != 0)) (pt b (dS cs id) :: R) := by
 refine am func221 ntmps221 ?_;refine aa (eW iC aW rfl rfl (i := 1) rfl (by decide) (by first | exact Qac _ | rfl)) ?_;refine ae rfl (cu mw rfl (aI (tA h (n := 1) (by decide)))) ?_;refine ae rfl (nt rfl rfl) (ae rfl (bA rfl) (aL (aH (dE (bX (.inl rfl) (.cons (aS rfl) .nil) ?_)))));exact ⟨_, ⟨Qai Value.bool (yr _), rfl⟩, IO⟩
theorem a5p b (h : CsOk cs) : sQ W0 215 [pV b] (pt b (dS cs id) :: R) (.bool (o9 cs)) (pt b (dS cs id) :: R) := by
 obtain ⟨z, c⟩ : ∃ z, (d9 cs 1 != 0) = z := ⟨_, rfl⟩
 refine am func215 ntmps215 ?_;refine ah (ap call221 (MA b h)) ?_;rw [c];refine bO (fun a => ?_) fun a => ?_;rw [show o9 cs = kx cs 1 by rw [o9, c, a, Qbb]];refine ah (ap vd (tB W0 _ b h 1 (by decide))) ?_;exact ac ao;rw [show o9 cs = false by rw [o9, c, show z = false by simpa using a, QcS]];exact ac ao
theorem BG p k : sQ W0 302 [.bool p, wV k] R (wV (if p then k else 0)) R := by
 refine am func302 ntmps302 ?_;refine ai (fun a => ?_) fun a => ?_;rw [Qad a];exact ac ao;rw [Qaa a];exact ac ao
theorem BH {p : Bool} {s k} : (s ||| (if p then k else 0)) = if p then s ||| k else s := by
 grind
theorem b0j {p : Bool} {k} (a : k < 4294967296) : (if p then k else 0) < 4294967296 := by split <;> omega
theorem BI b (h : CsOk cs) : sQ W0 144 [pV b] (pt b (dS cs id) :: R) (.agg (qR cs).toArray) (pt b (dS cs id) :: R) := by
 have h0 := h.at_ 0;have e1 : d9 cs 0 / 256 % 32 = gJ cs := by rw [gJ, show (31 : Nat) = 2 ^ 5 - 1 from rfl, rC]
 have e2 : ((((d9 cs 0 % 2 : Nat) : Int)) == 1) = ic cs := by
  grind [ic]
 have hm : gJ cs < 32 := by omega
 refine am func144 ntmps144 ?_;refine bj fun b1 => ?_;refine bq [b] 20 fun hS => ?_;refine aj 0 3 hS ?_;refine ax 3 hS (eW iC aW rfl rfl (i := 0) rfl (by decide) (by first | exact Qac _ | rfl)) ?_;refine ax 4 hS (aE (dm (k := 0) rfl (tA h (n := 0) (by decide)))) ?_;refine ax 5 hS (dT rfl rfl (by decide) (iJ (d9 cs 0) 2)) ?_;refine aj 6 4 hS ?_;refine ax 10 hS (eW iC aW rfl rfl (i := 0) rfl (by decide) (by first | exact Qac _ | rfl)) ?_;refine ax 11 hS (aE (dm (k := 0) rfl (tA h (n := 0) (by decide)))) ?_;refine ax 12 hS (j0 rfl rfl (by decide) (jQ (k := .u32) (s := 8) (by decide))) ?_;refine ax 13 hS (dT rfl rfl (by decide) (by rw [show (2 : Nat) ^ 8 = 256 from rfl, ← e1]; exact iJ (d9 cs 0 / 256) 32 : Int.tmod ((d9 cs 0 / 2 ^ 8 : Nat) : Int) 32 = ((gJ cs : Nat) : Int))) ?_;refine ax 14 hS (bD (co (by omega))) ?_;refine aj 15 1 hS ?_;refine cg 16 (ap vd (tB W0 _ b h 4 (by decide))) fun hS => ?_;refine aj 17 2 hS ?_;refine cp 19 aF fun hS => ?_;refine aJ ?_;refine aV (.cons (bi C4 wG rfl rfl) .nil) ?_;refine aG ?_;rw [qR, ← e2];rfl
theorem a5q b (h : CsOk cs) (f : id < 4) (n : Nat) (k : n < 9) clock (l : 0 ≤ clock) : sQ W0 315 [pV b, iQ n, iQ clock] (pt b (dS cs id) :: R) (.tuple #[wV (if dQ cs then oW cs id clock.toNat n else 0), iQ (if dQ cs then 0 else 4)]) (pt b (dS cs id) :: R) := by
 obtain ⟨q, rfl⟩ : ∃ q : Nat, clock = (q : Int) := ⟨clock.toNat, by omega⟩
 rw [Qae];obtain ⟨d, a⟩ : ∃ z, dQ cs = z := ⟨_, rfl⟩
 rw [a];refine am func315 ntmps315 ?_;refine ah (ap vd (tB W0 _ b h 4 (by decide))) ?_;rw [show kx cs 4 = d from a];refine ai (fun e => ?_) fun e => ?_;refine az ?_;rw [show d = false by simpa using e];exact ao;obtain rfl : d = true := by grind
 rw [Qad rfl, Qad rfl];refine cy rfl rfl rfl (fun c => ?_) fun c => ?_;omega;refine aw ?_;refine aA rfl (fun g => ?_) fun g => ?_;omega;refine aw ?_;refine ai (fun i => ?_) fun i => ?_;refine aa (bD (d8 (q : Int))) ?_;refine az ?_;obtain rfl : n = 7 := by omega
 exact ao;refine ai (fun j => ?_) fun j => ?_;refine aa (aE (aI (a5l h))) ?_;refine aa (bD (cW (by omega))) ?_;refine az ?_;obtain rfl : n = 8 := by omega
 exact ao;refine aa (ew (by omega)) ?_;refine aa (aE (aI (tA h (n := n) (by omega)))) ?_;refine az ?_;rw [oW, Qaa (by omega), Qaa (by omega)];exact ao
theorem a5r b (h : CsOk cs) (n v : Nat) (j : n < 9) (e : v < 4294967296) (f : dQ cs = true) : sP W0 316 [pV b, iQ n, wV v] (pt b (dS cs id) :: R) (fun r B => r = iQ (if n ≤ 6 then 0 else 1) ∧ B = pt b (dS (if n ≤ 6 then cs.set n (kz n v) else cs) id) :: R) := by
 refine am func316 ntmps316 ?_;refine jO (ap vd (tB W0 _ b h 4 (by decide))) ?_;rw [show kx cs 4 = true from f];refine au 3 ?_;refine jf ?_;refine cy rfl rfl rfl (fun c => ?_) fun c => ?_;omega;refine aw ?_;refine ai (fun g => ?_) fun g => ?_;refine ac ?_;rw [Qaa (by omega), Qaa (by omega)];exact ao;rw [Qad (show n ≤ 6 by omega), Qad (show n ≤ 6 by omega)];refine aA rfl (fun i => ?_) fun i => ?_;refine au 2 ?_;refine jP 3 (eH rfl rfl (lk e (by decide))) ?_;refine cF (fun _ : Unit => True) (fun _ => [(0, pV b), (1, iQ n), (7, wV (kz n v))]) (fun _ => pt b (dS cs id) :: R) ?_ ?_;refine au 6 ?_;refine aA rfl (fun d => ?_) fun d => ?_;omega;refine aw ?_;refine dj () ?_ ?_ ?_;trivial
 · rw [kz, Qad (by omega)]
   repeat (first | exact bK | refine bc rfl ?_)
 exact IO;intro _ _;have a : n < 7 := by omega
 refine aw ?_;refine aa (ew a) ?_;refine ar (dq (by rw [uT h]; omega) (uU h.len a)) ?_;exact ac ao;refine au 2 ?_;refine cF (fun _ : Unit => True) (fun _ => [(0, pV b), (1, iQ n), (7, wV (kz n v))]) (fun _ => pt b (dS cs id) :: R) ?_ ?_;refine au 6 ?_;refine ai (fun d => ?_) fun d => ?_;refine aa (eH rfl rfl (lk e (by decide))) ?_;refine dj () ?_ ?_ ?_;trivial
 · rw [kz, Qaa (by omega), Qad (by omega)]
   repeat (first | exact bK | refine bc rfl ?_)
 exact IO;refine dj () ?_ ?_ ?_;trivial
 · rw [kz, Qaa (by omega), Qaa (by omega)]
   repeat (first | exact bK | refine bc rfl ?_)
 exact IO;intro _ _;have a : n < 7 := by omega
 refine aw ?_;refine aa (ew a) ?_;refine ar (dq (by rw [uT h]; omega) (uU h.len a)) ?_;exact ac ao
theorem MB b pc cause tval (h : CsOk cs) (e : pc < 4294967296) (k : cause < 4294967296) (o : tval < 4294967296) : sQ W0 217 [pV b, wV pc, wV cause, wV tval] (pt b (dS cs id) :: R) (wV (d9 cs 1)) (pt b (dS (me cs pc cause tval) id) :: R) := by
 have l := h.trap e k o;have q := h.enter e k o;have r : d9 (me cs pc cause tval) 1 = d9 cs 1 := by grind [me, oU, d9]
 have p : ((4 ||| (if kx cs 1 then 2 else 0)) ||| (if kx cs 4 then 8 else 0)) = oT cs 4 1 2 4 8 := by rw [BH, BH]; rfl
 obtain ⟨s, f⟩ : ∃ u, (if kx cs 1 then 2 else 0) = u := ⟨_, rfl⟩
 obtain ⟨t, g⟩ : ∃ u, (if kx cs 4 then 8 else 0) = u := ⟨_, rfl⟩
 have j : s < 4294967296 := by grind
 have m : t < 4294967296 := by grind
 rw [f, g] at p;refine am func217 ntmps217 ?_;refine aa (eW iC aW rfl rfl (i := 2) rfl (by decide) (by first | exact Qac _ | rfl)) ?_;refine ar (dq (by grind [uT]) (uU (n := 2) h.len (by decide))) ?_;refine aa (eW iC aW rfl rfl (i := 3) rfl (by decide) (by first | exact Qac _ | rfl)) ?_;refine ar (dq (by rw [uT (h.set 2 pc e)]; decide) (uU (n := 3) (h.set 2 pc e).len (by decide))) ?_;refine aa (eW iC aW rfl rfl (i := 4) rfl (by decide) (by first | exact Qac _ | rfl)) ?_;refine ar (dq (by rw [uT ((h.set 2 pc e).set 3 cause k)]; decide) (uU (n := 4) ((h.set 2 pc e).set 3 cause k).len (by decide))) ?_;refine bq [] 13 fun c => ?_;refine aj 0 2 c ?_;refine aj 5 1 c ?_;refine aj 9 2 c ?_;refine cg 2 (ap vd (tB (cs := oU cs pc cause tval) W0 _ b l 1 (by decide))) fun c => ?_;refine cj 3 (aC H6 (BG _ 2)) ?_; clear c;rintro _ v ⟨rfl, d⟩;obtain rfl := d.symm;rw [DZ, f];refine ⟨aT, fun c => ?_⟩;refine ax 4 c (mD rfl rfl (mH (by decide) j (a := 4))) ?_;refine cg 6 (ap vd (tB (cs := oU cs pc cause tval) W0 _ b l 4 (by decide))) fun c => ?_;refine cj 7 (aC H6 (BG _ 8)) ?_; clear c;rintro _ v ⟨rfl, d⟩;obtain rfl := d.symm;rw [DZ, g];refine ⟨aT, fun c => ?_⟩;refine ax 8 c (mD rfl rfl (by rw [mH (Qcd (n := 32) (by decide) j) m, p])) ?_;refine ax 11 c (eW iC aW rfl rfl (i := 5) rfl (by decide) (by first | exact Qac _ | rfl)) ?_;refine cp 12 (dq (by grind [uT]) (uU (n := 5) l.len (by decide))) fun c => ?_;refine aJ ?_;refine gi (b := b) (o' := dS (me cs pc cause tval) id) rfl ?_;refine aw ?_;refine aa (eW iC aW rfl rfl (i := 1) rfl (by decide) (by first | exact Qac _ | rfl)) ?_;refine aa (aE (aI (tA q (n := 1) (by decide)))) ?_;refine ac ?_;rw [r];exact ao
theorem a5s b (h : CsOk cs) : sQ W0 314 [pV b] (pt b (dS cs id) :: R) (wV (d9 cs 2)) (pt b (dS (oV cs) id) :: R) := by
 have l := h.leave;have m : d9 (oV cs) 2 = d9 cs 2 := by grind [oV, d9]
 have j : d9 cs 5 &&& 10 < 4294967296 := QaI Qbw (h.at_ 5);have k : (((d9 cs 5 &&& 10) ||| (if kx cs 2 then 1 else 0)) ||| (if kx cs 8 then 4 else 0)) = oT cs (d9 cs 5 &&& 10) 2 1 8 4 := by rw [BH, BH]; rfl
 obtain ⟨o, d⟩ : ∃ u, (if kx cs 2 then 1 else 0) = u := ⟨_, rfl⟩
 obtain ⟨p, e⟩ : ∃ u, (if kx cs 8 then 4 else 0) = u := ⟨_, rfl⟩
 have f : o < 4294967296 := by grind
 have g : p < 4294967296 := by grind
 rw [d, e] at k;refine am func314 ntmps314 ?_;refine aa (eW iC aW rfl rfl (i := 5) rfl (by decide) (by first | exact Qac _ | rfl)) ?_;refine aa (aE (aI (tA h (n := 5) (by decide)))) ?_;refine aa (eH rfl rfl (lk (h.at_ 5) (by decide) (b := 10))) ?_;refine bq [] 14 fun a => ?_;refine aj 0 3 a ?_;refine aj 6 1 a ?_;refine aj 10 2 a ?_;refine cg 3 (ap vd (tB W0 _ b h 2 (by decide))) fun a => ?_;refine cj 4 (aC H6 (BG _ 1)) ?_; clear a;rintro _ q ⟨rfl, c⟩;obtain rfl := c.symm;rw [d];refine ⟨aT, fun a => ?_⟩;refine ax 5 a (mD rfl rfl (mH j f)) ?_;refine cg 7 (ap vd (tB W0 _ b h 8 (by decide))) fun a => ?_;refine cj 8 (aC H6 (BG _ 4)) ?_; clear a;rintro _ q ⟨rfl, c⟩;obtain rfl := c.symm;rw [e];refine ⟨aT, fun a => ?_⟩;refine ax 9 a (mD rfl rfl (by rw [mH (Qcd (n := 32) j f) g, k])) ?_;refine ax 12 a (eW iC aW rfl rfl (i := 5) rfl (by decide) (by first | exact Qac _ | rfl)) ?_;refine cp 13 (dq (by grind [uT]) (uU (n := 5) h.len (by decide))) fun a => ?_;refine aJ ?_;refine gi (b := b) (o' := dS (oV cs) id) rfl ?_;refine aw ?_;refine aa (eW iC aW rfl rfl (i := 2) rfl (by decide) (by first | exact Qac _ | rfl)) ?_;refine aa (aE (aI (tA l (n := 2) (by decide)))) ?_;refine ac ?_;rw [m];exact ao
end
def g6 (n : Nat) : Value := .int .i64 ((n : Nat) : Int)
def qX : List Value := List.replicate 8 (.bool false)
def qY : List Value := List.replicate 8 (.int .i64 0)
abbrev kc (a : Option Addr) (n c : Nat) : Obj := ag ([.slice a n c] ++ qX ++ qY) 229
def g7 (b : Nat) (L : List Nat) : HP := chk (fun C => ∃ a c, C = [pt b (kc a L.length c), osl 3 1 (.slice a L.length c) (L.map g6)])
section
variable {P : Program} {W0 : World} {N : FSz} {K : Act → World → Prop} {e : b0} {A B R R1 R2 : List HP} {b n : Nat} {L : List Nat} {f : FuncId} {args : List Value} {Post : Value → List HP → Prop}
theorem MC (h : ∀ a c, bE P W0 f args (pt b (kc a L.length c) :: osl 3 1 (.slice a L.length c) (L.map g6) :: R) Post) : bE P W0 f args (g7 b L :: R) Post :=
  qf fun C d => by obtain ⟨a, c, rfl⟩ := d; exact h a c
theorem wA {a c vs} [d : Tk pt b A (kc a n c) R1] [e : Tk (osl 3 1) (.slice a n c) R1 vs R2] (f : vs = L.map g6) (g : n = L.length) [k : Ent R2 B] : Ent A (g7 b L :: B) := by
 subst f; subst g;exact (Ent.ofPerm (d.perm.trans (e.perm.cons _))).trans ((Ent.cons (Ent.cons k)).trans (fH (R := B) (C := [_, _]) ⟨a, c, rfl⟩))
end
theorem a5t n : sQ W0 114 [iQ n] R (.bool (gr n)) R := by
 refine am func114 ntmps114 ?_;refine bO (fun a => ?_) fun a => ?_;rw [show gr n = decide (n < 8) by unfold gr; apply Qaz.2; omega];exact ac ao;rw [show gr n = false by unfold gr; apply Qal; omega];exact ac ao
theorem b0k {L : List Nat} {i n} hi (h : ∀ k, k < i → ((L.getD k 0) : Int) ≠ n) (a : (L[i]) ≠ n) : ∀ k, k < i + 1 → (L.getD k 0) ≠ n := fun k b => by
 rcases QaC k i with q | q;exact h k q;grind
def oB (L : List Nat) (n : Int) : Bool := L.any fun x => ((x : Nat) : Int) == n
theorem a5u {L n} (h : ∀ k, k < L.length → (L.getD k 0) ≠ n) : oB L n = false := by
 grind [oB, Qcw, Qbc.1]
theorem MD b L (s : L.length < 1000) n : sQ W0 115 [pV b, iQ n] (g7 b L :: R) (.bool (oB L n)) (g7 b L :: R) := by
 refine MC fun a c => ?_;refine am func115 ntmps115 ?_;refine d4 (fun i : Nat => i ≤ L.length ∧ ∀ k, k < i → ((L.getD k 0 : Nat) : Int) ≠ n) (fun i => [(0, pV b), (1, iQ n), (5, iQ i)]) (fun _ => pt b (kc a L.length c) :: osl 3 1 (.slice a L.length c) (L.map g6) :: R) (fun i => L.length - i) 0 ?_ ?_;grind;intro i ⟨t, f⟩;refine aw ?_;refine aA rfl (fun p => ?_) fun p => ?_;refine au 5 ?_;have d : i < L.length := by omega
 refine fT (r := osl 3 1) (b := .slice a L.length c) (km (fun h e => by have := Qai List.length e; rw [Qax, Qbr] at this; omega) fun g u q j h e l w m => ?_);cases h;refine aw ?_;refine aa (bJ d) ?_;refine ae rfl (aE (aI (v := g6 L[i]) (by grind))) ?_;refine ae rfl (aM rfl) (ae rfl (ix rfl rfl) (aL (aH ?_)));refine aA rfl (fun o => ?_) fun o => ?_;refine au 11 ?_;refine ac ?_;rw [show oB L n = true by unfold oB; rw [Qbo]; exact ⟨L[i], QaG d, by simpa [g6] using o⟩];exact ⟨_, ⟨rfl, rfl⟩, Ent.trans (B := pt b (kc (some ⟨g, 0, none⟩) L.length c) :: osl 3 1 (.slice (some ⟨g, 0, none⟩) L.length c) (L.map g6) :: R) (Ent.trans (B := pt g (ag (L.map g6 ++ j) 3) :: pt b (kc (some ⟨g, 0, none⟩) L.length c) :: R) inferInstance ((fk (g := g) (E := 3) (sz := 1) (B := pt b (kc (some ⟨g, 0, none⟩) L.length c) :: R) e l (by omega) m).trans inferInstance)) (wA rfl rfl)⟩;refine aw ?_;refine eD (B := pt b (kc (some ⟨g, 0, none⟩) L.length c) :: osl 3 1 (.slice (some ⟨g, 0, none⟩) L.length c) (L.map g6) :: R) (Ent.trans (B := pt g (ag (L.map g6 ++ j) 3) :: pt b (kc (some ⟨g, 0, none⟩) L.length c) :: R) inferInstance ((fk (g := g) (E := 3) (sz := 1) (B := pt b (kc (some ⟨g, 0, none⟩) L.length c) :: R) e l (by omega) m).trans inferInstance)) ?_;refine aw ?_;refine aa bY ?_;refine bR (i + 1) ?_;grind;refine aw ?_;refine ac ?_;rw [a5u (fun k x => f k (by omega))];exact ⟨_, ⟨rfl, rfl⟩, wA rfl rfl⟩
section
variable {P : Program} {W0 : World} {N : FSz} {K : Act → World → Prop} {e : b0} {A B R R1 R2 : List HP} {b n : Nat} {L : List Nat}
theorem ME [f : Tk g7 b A L R] (h : ∀ a c, av W0 N K e (pt b (kc a L.length c) :: osl 3 1 (.slice a L.length c) (L.map g6) :: R)) : av W0 N K e A :=
  fT (r := g7) (b := b) (nv fun C d => by obtain ⟨a, c, rfl⟩ := d; exact h a c)
end
def nP (L : List Nat) (n : Int) : List Nat := if gr n && !oB L n then L ++ [n.toNat] else L
theorem MF b L (j : L.length < 1000) n : sQ W0 43 [pV b, iQ n] (g7 b L :: R) (iQ (if gr n then 0 else 1)) (g7 b (nP L n) :: R) := by
 obtain ⟨w, e⟩ : ∃ w, gr n = w := ⟨_, rfl⟩
 obtain ⟨z, h⟩ : ∃ z, oB L n = z := ⟨_, rfl⟩
 rw [e];refine am func43 ntmps43 ?_;refine ah (aC call114 (a5t n)) ?_;rw [e];refine aA rfl (fun l => ?_) fun l => ?_;refine au 7 ?_;refine ac ?_;obtain rfl : w = false := by grind
 rw [show nP L n = L by rw [nP, e, QcS, Qaa QbH]];exact ao;refine au 2 ?_;refine cF (fun _ : Unit => w = true) (fun _ => []) (fun _ => g7 b (nP L n) :: R) ?_ ?_;refine au 1 ?_;have d : w = true := by grind
 obtain ⟨k, m⟩ : ∃ k : Nat, n = (k : Int) := ⟨n.toNat, by have := Qar (e.trans d); omega⟩
 refine aw ?_;refine ah (ap call115 (MD b L j n)) ?_;rw [h];refine ai (fun g => ?_) fun g => ?_;have f : z = false := by grind
 have o : nP L n = L ++ [k] := by grind [nP]
 refine ME (b := b) fun a c => ?_;refine aw ?_;refine dt (js ek aR m4 rfl rfl rfl rfl rfl (by decide) (by decide)) fun p => ?_;refine aD rfl (et (sz := 1) (by_ := 8) (info := Tryz.t3) ek (by kernel_rfl) rfl rfl rfl rfl (by decide) rfl rfl ee rfl rfl (by simp only [maxLen]; omega) (by omega)) ?_;rintro _ _ ⟨i, g, rfl, rfl⟩;refine aw ?_;refine ar (iX (by exact rfl : ([Value.slice a L.length c] ++ qX ++ qY).set 0 (.slice i (L.length + 1) g) = [.slice i (L.length + 1) g] ++ qX ++ qY)) ?_;refine bu () ?_ (he := ?_);exact d;rw [o];exact wA (n := L.length + 1) (L := L ++ [k]) (by rw [QaH, m]; rfl) (by simp);refine bu () ?_ (he := ?_);exact d;have f : z = true := by grind
 rw [show nP L n = L by rw [nP, e, h, d, f]; rfl];exact IO;intro _ d;refine aw ?_;refine ac ?_;rw [Qad d];exact ao
def oC (L : List Nat) (i : Nat) : Int := if i = 0 then -1 else ((L.getD 0 0 : Nat) : Int)
theorem a5v {a n c x} (b : x < 8) : ([Value.slice a n c] ++ qX ++ qY)[1 + x * 1]? = some (.bool false) := by
 have : x = 0 ∨ x = 1 ∨ x = 2 ∨ x = 3 ∨ x = 4 ∨ x = 5 ∨ x = 6 ∨ x = 7 := by omega
 rcases this with rfl | rfl | rfl | rfl | rfl | rfl | rfl | rfl <;> rfl
theorem MG {a n c x} (b : x < 8) : ([Value.slice a n c] ++ qX ++ qY)[9 + x * 1]? = some (iQ 0) := by
 have : x = 0 ∨ x = 1 ∨ x = 2 ∨ x = 3 ∨ x = 4 ∨ x = 5 ∨ x = 6 ∨ x = 7 := by omega
 rcases this with rfl | rfl | rfl | rfl | rfl | rfl | rfl | rfl <;> rfl
theorem BJ {b g n c} {L : List Nat} {sp R} (f : n = L.length) (a : n ≤ c) (d : c ≤ maxLen) (e : (L.map g6 ++ sp).length = c * 1) : Ent (pt b (kc (some ⟨g, 0, none⟩) n c) :: pt g (ag (L.map g6 ++ sp) 3) :: R) (pt b (kc (some ⟨g, 0, none⟩) n c) :: osl 3 1 (.slice (some ⟨g, 0, none⟩) n c) (L.map g6) :: R) :=
  Ent.cons (fk (g := g) (E := 3) (sz := 1) (B := R) a d (by grind) e)
theorem a5w b L (F : L.length < 1000) (v : ∀ x ∈ L, x < 8) : sQ W0 300 [pV b] (g7 b L :: R) (.tuple #[iQ (L.getD 0 0), .bool (decide (L ≠ []))]) (g7 b L :: R) := by
 refine MC fun a c => ?_;refine am func300 ntmps300 ?_;refine d4 (fun i : Nat => i ≤ L.length) (fun i => [(0, pV b), (4, iQ (oC L i)), (5, iQ i)]) (fun _ => pt b (kc a L.length c) :: osl 3 1 (.slice a L.length c) (L.map g6) :: R) (fun i => L.length - i) 0 ?_ ?_;omega;intro i G;refine aw ?_;refine aA rfl (fun C => ?_) fun C => ?_;refine au 2 ?_;refine cF (fun _ : Unit => i < L.length) (fun _ => [(0, pV b), (4, iQ (oC L (i + 1))), (5, iQ i)]) (fun _ => pt b (kc a L.length c) :: osl 3 1 (.slice a L.length c) (L.map g6) :: R) ?_ ?_;refine au 2 ?_;have d : i < L.length := by omega
 have h : L[i] < 8 := v _ (QaG d);have n : 0 < i → L.getD 0 0 < 8 := fun q => by
  have : 0 < L.length := by omega
  simpa [List.getD, this] using v _ (QaG this)
 refine fT (r := osl 3 1) (b := .slice a L.length c) (km (fun w p => by have := Qai List.length p; rw [Qax, Qbr] at this; omega) fun g H D s w p y I z => ?_);cases w;have l : (L.map g6 ++ s)[i * 1]? = some (g6 L[i]) := by grind
 refine bq [b, g] 38 fun e => ?_;refine aj 0 6 e ?_;refine ax 6 e (bJ d) ?_;refine ax 7 e (aE (dm (k := 1) rfl l)) ?_;refine aj 8 2 e ?_;refine ax 10 e (ew h) ?_;refine ax 11 e (aE (dm (k := 0) rfl (a5v h))) ?_;refine aj 12 2 e ?_;refine mF (t := 28) rfl ?_ ?_;intro f;refine aj 14 3 e ?_;refine mF (t := 31) rfl ?_ ?_;intro m;refine aj 17 21 e ?_;refine aJ ?_;refine aa (bJ d) ?_;refine aa (aE (aI l)) ?_;refine dj () ?_ ?_ ?_;exact d
 · have j : i = 0 := by
    grind [Nat.eq_zero_or_pos, oC]
   subst j;rw [show oC L (0 + 1) = ((L[0] : Nat) : Int) by rw [oC, Qaa (by omega)]; simp [List.getD, d]]
   repeat (first | exact bK | refine bc rfl ?_)
 exact Ent.trans (B := pt b (kc (some ⟨g, 0, none⟩) L.length c) :: pt g (ag (L.map g6 ++ s) 3) :: R) inferInstance (BJ rfl p y z);intro m;have j : 0 < i := by
  grind [Nat.eq_zero_or_pos, oC]
 have E : oC L i = ((L.getD 0 0 : Nat) : Int) := by grind [oC]
 rw [E];refine aj 17 6 e ?_;refine ax 23 e (bJ d) ?_;refine ax 24 e (aE (dm (k := 1) rfl l)) ?_;refine aj 25 2 e ?_;refine ax 27 e (ew h) ?_;refine ax 28 e (aE (dm (k := 0) rfl (MG h))) ?_;refine aj 29 4 e ?_;refine ax 33 e (ew (n j)) ?_;refine ax 34 e (aE (dm (k := 0) rfl (MG (n j)))) ?_;refine aj 35 3 e ?_;refine aJ ?_;refine aA rfl (fun u => ?_) fun u => ?_
 first | exact absurd u (by decide) | (simp at u)
 refine aw ?_;refine dj () ?_ ?_ ?_;exact d
 · rw [show oC L (i + 1) = ((L.getD 0 0 : Nat) : Int) by rw [oC, Qaa (by omega)]]
   repeat (first | exact bK | refine bc rfl ?_)
 exact Ent.trans (B := pt b (kc (some ⟨g, 0, none⟩) L.length c) :: pt g (ag (L.map g6 ++ s) 3) :: R) inferInstance (BJ rfl p y z);intro f;exact absurd (by decide) f;intro _ d;refine aw ?_;refine aa bY ?_;exact bR (i + 1) (d);refine aw ?_;obtain rfl : i = L.length := by omega
 refine ai (fun A => ?_) fun A => ?_;refine az ?_;obtain rfl : L = [] := by
  grind [oC]
 exact ⟨_, ⟨rfl, rfl⟩, wA rfl rfl⟩;have o : L ≠ [] := fun q => by subst q; exact A (by decide)
 rw [show oC L L.length = ((L.getD 0 0 : Nat) : Int) by rw [oC, Qaa (fun q => o (QaE q))], Qah o];refine az ?_;exact ⟨_, ⟨rfl, rfl⟩, wA rfl rfl⟩
def iq (L : List Nat) (n : Int) : List Nat := L.filter fun x => ((x : Nat) : Int) != n
theorem a5x {L : List Nat} {n i} hi : iq (L.take (i + 1)) n = iq (L.take i) n ++ (if (L[i]) != n then [L[i]] else []) := by
 grind [iq, Qan]
theorem a5y b L (C : L.length < 1000) n : sQ W0 301 [pV b, iQ n] (g7 b L :: R) (.bool (oB L n)) (g7 b (iq L n) :: R) := by
 obtain ⟨z, t⟩ : ∃ z, oB L n = z := ⟨_, rfl⟩
 have l : ∀ i, (iq (L.take i) n).length ≤ i := fun i => Qba (QaM _ _) (by grind);rw [t];refine am func301 ntmps301 ?_;refine ah (ap call115 (MD b L C n)) ?_;rw [t];refine ME (b := b) fun a c => ?_;refine aw ?_;refine fM (fun X : Nat × Option Addr × Nat => X.1 ≤ L.length) (fun X => [(0, pV b), (1, iQ n), (5, .bool z), (6, .slice X.2.1 (iq (L.take X.1) n).length X.2.2), (7, iQ X.1)]) (fun X => osl 3 1 (.slice X.2.1 (iq (L.take X.1) n).length X.2.2) ((iq (L.take X.1) n).map g6) :: pt b (kc a L.length c) :: osl 3 1 (.slice a L.length c) (L.map g6) :: R) (fun X => L.length - X.1) (0, none, 0) ?_ ?_ ?_ ?_;omega
 · repeat (first | exact bK | refine bc rfl ?_)
 grind [eX];intro ⟨i, h, j⟩ hi;dsimp only at hi ⊢;refine aw ?_;refine aA rfl (fun D => ?_) fun D => ?_;refine au 2 ?_;refine cF (fun X : Option Addr × Nat => i < L.length) (fun X => [(0, pV b), (1, iQ n), (5, .bool z), (6, .slice X.1 (iq (L.take (i + 1)) n).length X.2), (7, iQ i)]) (fun X => osl 3 1 (.slice X.1 (iq (L.take (i + 1)) n).length X.2) ((iq (L.take (i + 1)) n).map g6) :: pt b (kc a L.length c) :: osl 3 1 (.slice a L.length c) (L.map g6) :: R) ?_ ?_;refine au 2 ?_;have d : i < L.length := by omega
 have m := a5x (n := n) d;have E := l i;refine fT (r := osl 3 1) (b := .slice a L.length c) (km (fun u k => by have := Qai List.length k; rw [Qax, Qbr] at this; omega) fun g I F o u k v J w => ?_);cases u;have f : (L.map g6 ++ o)[i * 1]? = some (g6 L[i]) := by grind
 refine aw ?_;refine aa (bJ d) ?_;refine ae rfl (cu di rfl (aI f)) ?_;refine ae rfl (aM rfl) (ae rfl (nt rfl rfl) (aL (aH ?_)));refine aA rfl (fun x => ?_) fun x => ?_;have e : iq (L.take (i + 1)) n = iq (L.take i) n ++ [L[i]] := by grind
 have p : (iq (L.take (i + 1)) n).length = (iq (L.take i) n).length + 1 := by grind
 have s : (iq (L.take (i + 1)) n).map g6 = (iq (L.take i) n).map g6 ++ [g6 L[i]] := by grind
 refine aw ?_;refine aa (bJ d) ?_;refine aa (aE (aI f)) ?_;refine dt (js ek aR m4 rfl rfl rfl rfl rfl (by decide) (by decide)) fun K => ?_;refine aD rfl (et (sz := 1) (by_ := 8) (info := Tryz.t3) ek (by kernel_rfl) rfl rfl rfl rfl (by decide) rfl rfl ee rfl rfl (by omega) (by omega)) ?_;rintro _ _ ⟨y, A, rfl, rfl⟩;rw [← p, ← s];refine aw ?_;refine bu (y, A) ?_ (he := ?_);exact d;exact Ent.trans (B := osl 3 1 (.slice y (iq (L.take (i + 1)) n).length A) ((iq (L.take (i + 1)) n).map g6) :: pt b (kc (some ⟨g, 0, none⟩) L.length c) :: pt g (ag (L.map g6 ++ o) 3) :: R) inferInstance (Ent.cons (BJ rfl k v w));have e : iq (L.take (i + 1)) n = iq (L.take i) n := by rw [m, Qaa (fun q => x (QbO.1 q)), Qav]
 refine aw ?_;refine dj (h, j) ?_ ?_ ?_;exact d
 · rw [e]
   repeat (first | exact bK | refine bc rfl ?_)
 rw [e];exact Ent.trans (B := osl 3 1 (.slice h (iq (L.take i) n).length j) ((iq (L.take i) n).map g6) :: pt b (kc (some ⟨g, 0, none⟩) L.length c) :: pt g (ag (L.map g6 ++ o) 3) :: R) inferInstance (Ent.cons (BJ rfl k v w));intro ⟨G, H⟩ d;refine aw ?_;refine aa bY ?_;exact bR (i + 1, G, H) (d);refine aw ?_;obtain rfl : i = L.length := by omega
 rw [Qby];refine ar (iX (by exact rfl : ([Value.slice a L.length c] ++ qX ++ qY).set 0 (.slice h (iq L n).length j) = [.slice h (iq L n).length j] ++ qX ++ qY)) ?_;refine ac ?_;exact ⟨_, ⟨rfl, rfl⟩, wA (L := iq L n) rfl rfl⟩
def s4 (L : List Nat) : List Nat := if L = [] then [] else iq L ((L.getD 0 0 : Nat) : Int)
theorem a5z b L (a : L.length < 1000) (e : ∀ x ∈ L, x < 8) : sQ W0 216 [pV b] (g7 b L :: R) (.tuple #[iQ (L.getD 0 0), .bool (decide (L ≠ []))]) (g7 b (s4 L) :: R) := by
 obtain ⟨z, c⟩ : ∃ z, decide (L ≠ []) = z := ⟨_, rfl⟩
 rw [c];refine am func216 ntmps216 ?_;refine ah (ap call300 (a5w b L a e)) ?_;rw [c];refine ai (fun d => ?_) fun d => ?_;refine ah (ap call301 (a5y b L a ((L.getD 0 0 : Nat) : Int))) ?_;refine az ?_;rw [s4, Qaa (by grind)];exact ao;refine az ?_
 rw [s4, Qad (by
   rcases L with _ | ⟨x, l⟩
   · rfl
   exact absurd (by grind) d)]
 obtain rfl : L = [] := by
  grind
 exact ao
@[reducible] def eN (x : Int × Int) : List Value := [.int .i64 x.1, .int .i64 x.2]
theorem yT x : (eN x).length = 2 := rfl
abbrev jb (a : Option Addr) (n c : Nat) : Obj := ag [.slice a n c] 253
def eS (b : Nat) (L : List (Int × Int)) : HP := chk (fun C => ∃ a c, C = [pt b (jb a L.length c), osl 255 2 (.slice a L.length c) (L.flatMap eN)])
section
variable {P : Program} {W0 : World} {N : FSz} {K : Act → World → Prop} {e : b0} {A B R R1 R2 : List HP} {b n : Nat} {L : List (Int × Int)} {f : FuncId} {args : List Value} {Post : Value → List HP → Prop}
theorem MH (h : ∀ a c, bE P W0 f args (pt b (jb a L.length c) :: osl 255 2 (.slice a L.length c) (L.flatMap eN) :: R) Post) : bE P W0 f args (eS b L :: R) Post :=
  qf fun C d => by obtain ⟨a, c, rfl⟩ := d; exact h a c
theorem BK [f : Tk eS b A L R] (h : ∀ a c, av W0 N K e (pt b (jb a L.length c) :: osl 255 2 (.slice a L.length c) (L.flatMap eN) :: R)) : av W0 N K e A :=
  fT (r := eS) (b := b) (nv fun C d => by obtain ⟨a, c, rfl⟩ := d; exact h a c)
theorem qZ {a c vs} [d : Tk pt b A (jb a n c) R1] [e : Tk (osl 255 2) (.slice a n c) R1 vs R2] (f : vs = L.flatMap eN) (g : n = L.length) [k : Ent R2 B] : Ent A (eS b L :: B) := by
 subst f; subst g;exact (Ent.ofPerm (d.perm.trans (e.perm.cons _))).trans ((Ent.cons (Ent.cons k)).trans (fH (R := B) (C := [_, _]) ⟨a, c, rfl⟩))
theorem s5 {b g n c sp R} (a : n = L.length) (d : n ≤ c) (e : c ≤ maxLen) (f : (L.flatMap eN ++ sp).length = c * 2) : Ent (pt b (jb (some ⟨g, 0, none⟩) n c) :: pt g (ag (L.flatMap eN ++ sp) 255) :: R) (pt b (jb (some ⟨g, 0, none⟩) n c) :: osl 255 2 (.slice (some ⟨g, 0, none⟩) n c) (L.flatMap eN) :: R) :=
  Ent.cons (fk (g := g) (E := 255) (sz := 2) (B := R) d e (by rw [cJ yT, a]) f)
theorem BL {a c} [o : Tk (osl 255 2) (.slice a L.length c) A (L.flatMap eN) R] (j : L ≠ [])
    (h : ∀ g d, a = some ⟨g, 0, none⟩ → L.length ≤ c → c ≤ maxLen → (L.flatMap eN ++ d).length = c * 2 → av W0 N K e (pt g (ag (L.flatMap eN ++ d) 255) :: R)) : av W0 N K e A :=
  fT (r := osl 255 2) (b := .slice a L.length c) (km (fun _ f => by
      have := cJ yT L;rw [f] at this;have i : L.length = 0 := by grind
      exact absurd (Qbe.1 i) j) fun g n k d l f i p m => by
    cases l
    exact h g d rfl f i m)
end
theorem yU {L : List (Int × Int)} {sp i} hi : (L.flatMap eN ++ sp)[i * 2]? = some (iQ L[i].1) ∧ (L.flatMap eN ++ sp)[i * 2 + 1]? = some (iQ L[i].2) := by
 exact ⟨(mG yT L i 0 sp hi (by decide)).trans rfl, (mG yT L i 1 sp hi (by decide)).trans rfl⟩
def jc (L : List (Int × Int)) (n : Int) : Bool := L.any fun x => x.1 == n
theorem a5A {L n} (h : ∀ k, k < L.length → (L.getD k (0, 0)).1 ≠ n) : jc L n = false := by
 grind [jc, Qcw, Qbc.1]
theorem MI b L (r : L.length < 1000) n : sQ W0 139 [pV b, iQ n] (eS b L :: R) (.bool (jc L n)) (eS b L :: R) := by
 refine MH fun a c => ?_;refine am func139 ntmps139 ?_;refine d4 (fun i : Nat => i ≤ L.length ∧ ∀ k, k < i → (L.getD k (0, 0)).1 ≠ n) (fun i => [(0, pV b), (1, iQ n), (5, iQ i)]) (fun _ => pt b (jb a L.length c) :: osl 255 2 (.slice a L.length c) (L.flatMap eN) :: R) (fun i => L.length - i) 0 ?_ ?_;grind;intro i ⟨s, e⟩;refine aw ?_;refine ai (fun o => ?_) fun o => ?_;have d : i < L.length := by omega
 refine BL (a := a) (c := c) (L := L) (by grind) fun g f p h j l => ?_;subst p;obtain ⟨q, t⟩ := yU (sp := f) d;refine aw ?_;refine aa (bJ d) ?_;refine aa (aE (aI q)) ?_;refine ai (fun m => ?_) fun m => ?_;refine ac ?_;rw [show jc L n = true by unfold jc; rw [Qbo]; exact ⟨L[i], QaG d, by simpa using m⟩];exact ⟨_, ⟨rfl, rfl⟩, Ent.trans (B := pt b (jb (some ⟨g, 0, none⟩) L.length c) :: osl 255 2 (.slice (some ⟨g, 0, none⟩) L.length c) (L.flatMap eN) :: R) (Ent.trans (B := pt b (jb (some ⟨g, 0, none⟩) L.length c) :: pt g (ag (L.flatMap eN ++ f) 255) :: R) inferInstance (s5 rfl h j l)) (qZ rfl rfl)⟩;refine eD (B := pt b (jb (some ⟨g, 0, none⟩) L.length c) :: osl 255 2 (.slice (some ⟨g, 0, none⟩) L.length c) (L.flatMap eN) :: R) (Ent.trans (B := pt b (jb (some ⟨g, 0, none⟩) L.length c) :: pt g (ag (L.flatMap eN ++ f) 255) :: R) inferInstance (s5 rfl h j l)) ?_;refine aw ?_;refine aa bY ?_;refine bR (i + 1) ?_;grind;refine ac ?_;rw [a5A (fun k u => e k (by omega))];exact ⟨_, ⟨rfl, rfl⟩, qZ rfl rfl⟩
def kd (L : List (Int × Int)) : Nat → Int
 | 0 => -1
 | i + 1 => if kd L i < 0 ∨ (L.getD i (0, 0)).2 < (L.getD (kd L i).toNat (0, 0)).2 then (i : Int) else kd L i
theorem FU L : ∀ i, (i = 0 ∧ kd L i = -1) ∨ ∃ r, r < i ∧ kd L i = r ∧ ∀ k, k < i → (L.getD r (0, 0)).2 ≤ (L.getD k (0, 0)).2
 | 0 => .inl ⟨rfl, rfl⟩
 | i + 1 => by
  right;rw [kd];rcases FU L i with ⟨b, a⟩ | ⟨r, c, a, d⟩;simp_all;rw [a, Qae];split;grind;grind
theorem a5B b L (A : L.length < 1000) : sQ W0 298 [pV b] (eS b L :: R) (iQ (kd L L.length)) (eS b L :: R) := by
 refine MH fun a c => ?_;refine am func298 ntmps298 ?_;refine d4 (fun i : Nat => i ≤ L.length) (fun i => [(0, pV b), (3, iQ (kd L i)), (4, iQ i)]) (fun _ => pt b (jb a L.length c) :: osl 255 2 (.slice a L.length c) (L.flatMap eN) :: R) (fun i => L.length - i) 0 ?_ ?_;omega;intro i C;refine aw ?_;refine aA rfl (fun s => ?_) fun s => ?_;refine au 2 ?_;refine cF (fun _ : Unit => i < L.length) (fun _ => [(0, pV b), (3, iQ (kd L (i + 1))), (4, iQ i)]) (fun _ => pt b (jb a L.length c) :: osl 255 2 (.slice a L.length c) (L.flatMap eN) :: R) ?_ ?_;refine au 2 ?_;have d : i < L.length := by omega
 have u := FU L i;refine BL (a := a) (c := c) (L := L) (by grind) fun g h v l m n => ?_;subst v;obtain ⟨D, w⟩ := yU (sp := h) d;have E : (L.getD i (0, 0)).2 = L[i].2 := by grind
 refine bq [b, g] 21 fun e => ?_;refine aj 0 3 e ?_;refine mF (t := 16) rfl ?_ ?_;intro f;refine aj 3 18 e ?_;refine aJ ?_;refine dj () ?_ ?_ ?_;exact d
 · rw [show kd L (i + 1) = (i : Int) by rw [kd, Qad (.inl f)]]
   repeat (first | exact bK | refine bc rfl ?_)
 exact Ent.trans (B := pt b (jb (some ⟨g, 0, none⟩) L.length c) :: pt g (ag (L.flatMap eN ++ h) 255) :: R) inferInstance (s5 rfl l m n);intro f;obtain ⟨r, F, o, x⟩ : ∃ r : Nat, r < i ∧ kd L i = (r : Int) ∧ ∀ k, k < i → (L.getD r (0, 0)).2 ≤ (L.getD k (0, 0)).2 := by
  grind
 have j : r < L.length := by omega
 obtain ⟨G, y⟩ := yU (sp := h) j;have H : (L.getD (kd L i).toNat (0, 0)).2 = L[r].2 := by grind
 refine aj 3 5 e ?_;refine ax 8 e (bJ d) ?_;refine aj 9 1 e ?_;refine ax 10 e (aE (dm (k := 1) rfl w)) ?_;refine aj 11 5 e ?_;refine ax 16 e (jM v5 ze rfl rfl o j (by first | exact Qac _ | rfl)) ?_;refine aj 17 1 e ?_;refine ax 18 e (aE (dm (k := 1) rfl y)) ?_;refine aj 19 2 e ?_;refine aJ ?_;refine ai (fun z => ?_) fun z => ?_;refine dj () ?_ ?_ ?_;exact d
 · rw [show kd L (i + 1) = (i : Int) by rw [kd, Qad (.inr (by omega))]]
   repeat (first | exact bK | refine bc rfl ?_)
 exact Ent.trans (B := pt b (jb (some ⟨g, 0, none⟩) L.length c) :: pt g (ag (L.flatMap eN ++ h) 255) :: R) inferInstance (s5 rfl l m n);refine dj () ?_ ?_ ?_;exact d
 · have p : ¬ (kd L i < 0 ∨ (L.getD i (0, 0)).2 < (L.getD (kd L i).toNat (0, 0)).2) := fun q => by
    rcases q with q | q;exact f q;omega
   rw [show kd L (i + 1) = kd L i by rw [kd, Qaa p]]
   repeat (first | exact bK | refine bc rfl ?_)
 exact Ent.trans (B := pt b (jb (some ⟨g, 0, none⟩) L.length c) :: pt g (ag (L.flatMap eN ++ h) 255) :: R) inferInstance (s5 rfl l m n);intro _ d;refine aw ?_;refine aa bY ?_;exact bR (i + 1) (d);refine aw ?_;refine ac ?_;obtain rfl : i = L.length := by omega
 exact ⟨_, ⟨rfl, rfl⟩, qZ rfl rfl⟩
def i3 (L : List (Int × Int)) (n : Int) : List (Int × Int) := L.filter fun x => x.1 != n
theorem a5C {L : List (Int × Int)} {n i} hi : i3 (L.take (i + 1)) n = i3 (L.take i) n ++ (if L[i].1 != n then [L[i]] else []) := by
 grind [i3, Qan]
theorem a5D b L (x : L.length < 1000) n : sQ W0 299 [pV b, iQ n] (eS b L :: R) (.bool (jc L n)) (eS b (i3 L n) :: R) := by
 obtain ⟨z, m⟩ : ∃ z, jc L n = z := ⟨_, rfl⟩
 have h : ∀ i, (i3 (L.take i) n).length ≤ i := fun i => Qba (QaM _ _) (by grind);rw [m];refine am func299 ntmps299 ?_;refine ah (ap call139 (MI b L x n)) ?_;rw [m];refine BK (b := b) fun a c => ?_;refine aw ?_;refine fM (fun X : Nat × Option Addr × Nat => X.1 ≤ L.length) (fun X => [(0, pV b), (1, iQ n), (5, .bool z), (6, .slice X.2.1 (i3 (L.take X.1) n).length X.2.2), (7, iQ X.1)]) (fun X => osl 255 2 (.slice X.2.1 (i3 (L.take X.1) n).length X.2.2) ((i3 (L.take X.1) n).flatMap eN) :: pt b (jb a L.length c) :: osl 255 2 (.slice a L.length c) (L.flatMap eN) :: R) (fun X => L.length - X.1) (0, none, 0) ?_ ?_ ?_ ?_;omega
 · repeat (first | exact bK | refine bc rfl ?_)
 exact Ent.trans (B := pt b (jb a L.length c) :: osl 255 2 (.slice a L.length c) (L.flatMap eN) :: R) inferInstance (eX (E := 255) (sz := 2));intro ⟨i, o, p⟩ hi;dsimp only at hi ⊢;refine aw ?_;refine aA rfl (fun y => ?_) fun y => ?_;refine au 2 ?_;refine cF (fun X : Option Addr × Nat => i < L.length) (fun X => [(0, pV b), (1, iQ n), (5, .bool z), (6, .slice X.1 (i3 (L.take (i + 1)) n).length X.2), (7, iQ i)]) (fun X => osl 255 2 (.slice X.1 (i3 (L.take (i + 1)) n).length X.2) ((i3 (L.take (i + 1)) n).flatMap eN) :: pt b (jb a L.length c) :: osl 255 2 (.slice a L.length c) (L.flatMap eN) :: R) ?_ ?_;refine au 2 ?_;have d : i < L.length := by omega
 have j := a5C (n := n) d;have A := h i;refine BL (a := a) (c := c) (L := L) (by grind) fun g f C r s t => ?_;subst C;obtain ⟨D, H⟩ := yU (sp := f) d;refine aw ?_;refine aa (bJ d) ?_;refine aa (aE (aI D)) ?_;refine ai (fun u => ?_) fun u => ?_;have e : i3 (L.take (i + 1)) n = i3 (L.take i) n ++ [L[i]] := by grind
 have k : (i3 (L.take (i + 1)) n).length = (i3 (L.take i) n).length + 1 := by grind
 have l : (i3 (L.take (i + 1)) n).flatMap eN = (i3 (L.take i) n).flatMap eN ++ [eN L[i]].flatten := by grind
 refine aa (bJ d) ?_;refine aa (df (cV (b := g) (vs := eN L[i]) (n := 2) (q9 yT L i f d) rfl)) ?_;refine dt (iG v5 ze NW rfl (fm rfl rfl i5) rfl (by decide) (by decide) (by decide)) fun I => ?_;refine aD rfl (et (sz := 2) (by_ := 16) (info := Tryz.t255) v5 (by kernel_rfl) rfl rfl rfl rfl (by decide) rfl rfl ee rfl rfl (by omega) (by omega)) ?_;rintro _ _ ⟨v, w, rfl, rfl⟩;rw [← k, ← l];refine aw ?_;refine bu (v, w) ?_ (he := ?_);exact d;exact Ent.trans (B := osl 255 2 (.slice v (i3 (L.take (i + 1)) n).length w) ((i3 (L.take (i + 1)) n).flatMap eN) :: pt b (jb (some ⟨g, 0, none⟩) L.length c) :: pt g (ag (L.flatMap eN ++ f) 255) :: R) inferInstance (Ent.cons (s5 rfl r s t));have e : i3 (L.take (i + 1)) n = i3 (L.take i) n := by rw [j, Qaa (fun q => u (QbO.1 q)), Qav]
 refine dj (o, p) ?_ ?_ ?_;exact d
 · rw [e]
   repeat (first | exact bK | refine bc rfl ?_)
 rw [e];exact Ent.trans (B := osl 255 2 (.slice o (i3 (L.take i) n).length p) ((i3 (L.take i) n).flatMap eN) :: pt b (jb (some ⟨g, 0, none⟩) L.length c) :: pt g (ag (L.flatMap eN ++ f) 255) :: R) inferInstance (Ent.cons (s5 rfl r s t));intro ⟨F, G⟩ d;refine aw ?_;refine aa bY ?_;exact bR (i + 1, F, G) (d);refine aw ?_;obtain rfl : i = L.length := by omega
 rw [Qby];refine ar dX ?_;refine ac ?_;exact ⟨_, ⟨rfl, rfl⟩, qZ (L := i3 L n) rfl rfl⟩
def BM (L : List (Int × Int)) : Nat → Nat → Nat
 | 0, k => k
 | n + 1, k => if jc L k then BM L n (k + 1) else k
theorem BN {L n} (h : jc L n = true) : ∃ x ∈ L, x.1 = n := by
 grind [jc]
theorem FV {L} (j : L.length < 4) (h : ∀ k : Nat, k < 4 → jc L k = true) : False := by
 obtain ⟨a, e, l⟩ := BN (h 0 (by decide));obtain ⟨b, f, m⟩ := BN (h 1 (by decide));obtain ⟨c, g, n⟩ := BN (h 2 (by decide));obtain ⟨d, i, o⟩ := BN (h 3 (by decide))
 match L, j with
 | [], _ => cases e
 | [x], _ =>
  simp only [Qbh] at e f;subst e; subst f; omega
 | [x, y], _ =>
  simp only [QaO, Qck, or_false] at e f g;rcases e with rfl | rfl <;> rcases f with rfl | rfl <;> rcases g with rfl | rfl <;> omega
 | [x, y, z], _ =>
  simp only [QaO, Qck, or_false] at e f g i;rcases e with rfl | rfl | rfl <;> rcases f with rfl | rfl | rfl <;> rcases g with rfl | rfl | rfl <;> rcases i with rfl | rfl | rfl <;> omega
theorem FX {L} {i : Nat} (c : jc L i = false) : ∀ n k, k ≤ i → i < k + n → (∀ j, k ≤ j → j < i → jc L j = true) → BM L n k = i
 | 0, k, d, f, _ => by omega
 | n + 1, k, d, f, e => by
  rw [BM];rcases Nat.eq_or_lt_of_le d with q | q;grind;rw [e k (Qam _) q, Qad rfl];exact FX c n (k + 1) q (by omega) fun j a b => e j (by omega) b
def BO (L : List (Int × Int)) : Nat := BM L 4 0
def uV (L : List (Int × Int)) (d : Int) : Int := if d < 0 then 1 else if 4 ≤ L.length then 2 else 0
def uW (L : List (Int × Int)) (d : Int) : Nat := if d < 0 then 0 else if 4 ≤ L.length then 0 else BO L
def uX (L : List (Int × Int)) (d : Int) : List (Int × Int) := if d < 0 then L else if 4 ≤ L.length then L else L ++ [(((BO L : Nat) : Int), d)]
theorem a5E b L (m : L.length < 1000) d : sQ W0 60 [pV b, iQ d] (eS b L :: R) (.tuple #[iQ (uW L d), iQ (uV L d)]) (eS b (uX L d) :: R) := by
 refine am func60 ntmps60 ?_;refine ai (fun f => ?_) fun f => ?_;refine az ?_;rw [uW, uV, uX, Qad f, Qad f, Qad f];exact ao;refine BK (b := b) fun a c => ?_;refine aw ?_;refine ai (fun l => ?_) fun l => ?_;refine az ?_;have g : 4 ≤ L.length := by omega
 rw [uW, uV, uX, Qaa f, Qaa f, Qaa f, Qad g, Qad g, Qad g];exact ⟨_, ⟨rfl, rfl⟩, qZ rfl rfl⟩;have h : L.length < 4 := by omega
 refine fM (fun i : Nat => i ≤ 4 ∧ ∀ k : Nat, k < i → jc L k = true) (fun i => [(0, pV b), (1, iQ d), (6, iQ i)]) (fun _ => eS b L :: R) (fun i => 5 - i) 0 ?_ ?_ ?_ ?_;grind
 · repeat (first | exact bK | refine bc rfl ?_)
 exact qZ rfl rfl;intro i ⟨w, e⟩;refine aw ?_;refine ah (ap call139 (MI b L m i)) ?_;refine ai (fun o => ?_) fun o => ?_;refine aa bY ?_;refine bR (i + 1) ?_;grind [FV];have p : i ≠ 4 := fun q => by subst q; exact FV h e
 have r : jc L i = false := by grind
 have s : BO L = i := FX r 4 0 (QaF _) (by omega) fun j _ q => e j q;have t : uX L d = L ++ [(((i : Nat) : Int), d)] := by grind [uX]
 have u : uW L d = i := by grind [uW]
 have v : uV L d = 0 := by grind [uV]
 rw [t, u, v];refine BK (b := b) fun a c => ?_;refine aw ?_;refine dt (iG v5 ze NW rfl (fm rfl rfl i5) rfl (by decide) (by decide) (by decide)) fun x => ?_;refine aD rfl (et (sz := 2) (by_ := 16) (info := Tryz.t255) v5 (by kernel_rfl) rfl rfl rfl rfl (by decide) rfl rfl ee rfl rfl (by simp only [maxLen]; omega) (by omega)) ?_;rintro _ _ ⟨y, l, rfl, rfl⟩;refine aw ?_;refine ar dX ?_;refine az ?_;exact ⟨_, ⟨rfl, rfl⟩, qZ (n := L.length + 1) (L := L ++ [(((i : Nat) : Int), d)]) (by grind) (by simp)⟩
theorem a5F {l1 l2 x} (h : ((l1 ++ x :: l2).map (·.1)).Nodup) : i3 (l1 ++ x :: l2) x.1 = l1 ++ l2 := by
 rw [QaH, QaL] at h;have h := Qbp.1 h;have b : l1.filter (fun y => y.1 != x.1) = l1 := QaT.2 fun y a => QbO.2 (h.2.2 _ (QbQ a) _ (Qbj ..));have c : l2.filter (fun y => y.1 != x.1) = l2 := QaT.2 fun y a => QbO.2 fun e => (Qbx.1 h.2.1).1 (e ▸ QbQ a);unfold i3;rw [QbG, List.filter_cons, b, c];simp
def BQ (now : Int) (x : Int × Int) : Bool := decide (x.2 ≤ now)
def pS (L : List (Int × Int)) (now : Int) : List (Int × Int) := L.filter fun x => !BQ now x
def ni (L : List (Int × Int)) (now : Int) : Nat := (L.filter (BQ now)).length
structure Fi (L M : List (Int × Int)) (now : Int) (k m : Nat) : Prop where
  nd : (M.map (·.1)).Nodup
  len : M.length ≤ 4
  left : pS M now = pS L now
  n : ni M now + m = ni L now
  all : m = k ∨ ni M now = 0
theorem Fi.go {L M now k m r} (h : Fi L M now k m) (u : r < M.length) (j : M[r].2 ≤ now) (v : k < 4) : Fi L (i3 M M[r].1) now (k + 1) (m + 1) := by
 have o : M = M.take r ++ M[r] :: M.drop (r + 1) := by
  simp_all
 obtain ⟨x, p⟩ : ∃ x, M[r] = x := ⟨_, rfl⟩
 obtain ⟨e, g⟩ : ∃ l, M.take r = l := ⟨_, rfl⟩
 obtain ⟨f, i⟩ : ∃ l, M.drop (r + 1) = l := ⟨_, rfl⟩
 rw [p] at j ⊢;rw [p, g, i] at o;have b := h.nd;have c := h.len;have a := h.left;have q := h.n;have d := h.all;rw [o] at b c a q d ⊢;rw [a5F b];have s : BQ now x = true := Qah j;have t : pS (e ++ x :: f) now = pS (e ++ f) now := by
  grind [pS]
 have w : ni (e ++ x :: f) now = ni (e ++ f) now + 1 := by
  grind [ni]
 refine ⟨?_, ?_, by rw [← t]; exact a, by omega, ?_⟩;grind;grind;omega
theorem Fi.no {L M now k m} (h : Fi L M now k m) (a : ∀ x ∈ M, ¬ x.2 ≤ now) : Fi L M now (k + 1) m :=
  ⟨h.nd, h.len, h.left, h.n, .inr (by
    unfold ni
    rw [show M.filter (BQ now) = [] from QcJ.2 fun x b q => a x b (Qar q)]; rfl)⟩
theorem Fi.done {L M now m} (h : Fi L M now 4 m) (b : L.length ≤ 4) : M = pS L now ∧ m = ni L now := by
 have d := h.n;have e : ni L now ≤ 4 := Qba (QaM _ _) b;have a : ni M now = 0 := by rcases h.all with q | q <;> omega
 refine ⟨?_, by omega⟩;rw [← h.left];unfold pS;refine (QaT.2 fun x c => ?_).symm;unfold ni at a;have := QcJ.1 (Qbe.1 a) x c;simpa using this
theorem a5G b L (hl : L.length ≤ 4) (hnd : (L.map (·.1)).Nodup) now : sP W0 214 [pV b, iQ now] (eS b L :: R) (fun v B => ∃ a c, v = .slice a (ni L now) c ∧ B = eS b (pS L now) :: R) := by
 refine am func214 ntmps214 ?_;refine fM (fun X : Nat × List (Int × Int) × List Value × Option Addr × Nat => X.1 ≤ 4 ∧ Fi L X.2.1 now X.1 X.2.2.1.length ∧ X.2.2.1.length ≤ X.1) (fun X => [(0, pV b), (1, iQ now), (5, .slice X.2.2.2.1 X.2.2.1.length X.2.2.2.2), (6, iQ X.1)]) (fun X => osl 3 1 (.slice X.2.2.2.1 X.2.2.1.length X.2.2.2.2) X.2.2.1 :: eS b X.2.1 :: R) (fun X => 4 - X.1) (0, L, [], none, 0) ?_ ?_ ?_ ?_;exact ⟨QaF _, ⟨hnd, hl, rfl, rfl, .inl rfl⟩, Qam _⟩
 · repeat (first | exact bK | refine bc rfl ?_)
 grind [Ent.trans, eS, eX];intro ⟨k, M, O, oa, oc⟩ ⟨hk, hF, hO⟩;dsimp only at hk hF hO ⊢;refine aw ?_;refine aA rfl (fun c3 => ?_) fun c3 => ?_;refine au 2 ?_;refine cF (fun X : List (Int × Int) × List Value × Option Addr × Nat => k < 4 ∧ Fi L X.1 now (k + 1) X.2.1.length ∧ X.2.1.length ≤ k + 1) (fun X => [(0, pV b), (1, iQ now), (5, .slice X.2.2.1 X.2.1.length X.2.2.2), (6, iQ k)]) (fun X => osl 3 1 (.slice X.2.2.1 X.2.1.length X.2.2.2) X.2.1 :: eS b X.1 :: R) ?_ ?_;refine au 4 ?_;refine ah (ap call298 (a5B b M (by have := hF.len; omega))) ?_;have hk4 : k < 4 := by omega
 have hml := hF.len;have hok := FU M M.length;refine BK (b := b) fun a2 c2 => ?_;refine aw ?_;refine bO (fun g6_3 => ?_) fun g6_3 => ?_;obtain ⟨r, hr, hrb, hrm⟩ : ∃ r : Nat, r < M.length ∧ kd M M.length = (r : Int) ∧ ∀ j, j < M.length → (M.getD r (0, 0)).2 ≤ (M.getD j (0, 0)).2 := by
  grind
 refine BL (a := a2) (c := c2) (L := M) (by grind) fun g sp ha h2 h3 h5 => ?_;subst ha;obtain ⟨k1, k2⟩ := yU (sp := sp) hr;refine aw ?_;refine aa (jM v5 ze rfl rfl hrb hr (by first | exact Qac _ | rfl)) ?_;refine aa (aE (aI k2)) ?_;refine ai (fun c6 => ?_) fun c6 => ?_;refine aa (jM v5 ze rfl rfl hrb hr (by first | exact Qac _ | rfl)) ?_;refine aa (aE (aI k1)) ?_;refine dt (js ek aR m4 rfl rfl rfl rfl rfl (by decide) (by decide)) fun b1 => ?_;refine aD rfl (et (sz := 1) (by_ := 8) (info := Tryz.t3) ek (by kernel_rfl) rfl rfl rfl rfl (by decide) rfl rfl ee rfl rfl (by simp only [maxLen]; omega) (by omega)) ?_;rintro _ _ ⟨a3, c3, rfl, rfl⟩;refine aw ?_;refine eD (B := eS b M :: osl 3 1 (.slice a3 (O.length + 1) c3) (O ++ [iQ M[r].1]) :: R) (Ent.trans (B := pt b (jb (some ⟨g, 0, none⟩) M.length c2) :: pt g (ag (M.flatMap eN ++ sp) 255) :: osl 3 1 (.slice a3 (O.length + 1) c3) (O ++ [iQ M[r].1]) :: R) inferInstance ((s5 rfl h2 h3 h5).trans (qZ rfl rfl))) ?_;refine aw ?_;refine ah (ap call299 (a5D b M (by omega) M[r].1)) ?_;refine dj (i3 M M[r].1, O ++ [iQ M[r].1], a3, c3) ?_ ?_ ?_;exact ⟨hk4, by rw [Qaf]; exact hF.go hr c6 hk4, by rw [Qaf]; simp; omega⟩
 · rw [Qaf]
   repeat (first | exact bK | refine bc rfl ?_)
 show Ent _ (osl 3 1 (.slice a3 (O ++ [Value.int .i64 M[r].1]).length c3) (O ++ [iQ M[r].1]) :: eS b (i3 M M[r].1) :: R);rw [Qaf];exact IO;refine bu (M, O, oa, oc) ?_ (he := ?_)
 exact ⟨hk4, hF.no (fun x hx q => by
  obtain ⟨j, hj, rfl⟩ := Qbc.1 hx;have h9 := hrm j hj;simp only [List.getD, QaV hj, QaV hr, Option.getD_some] at h9
  exact c6 (by omega)), by dsimp only; omega⟩
 exact Ent.trans (B := osl 3 1 (.slice oa O.length oc) O :: pt b (jb (some ⟨g, 0, none⟩) M.length c2) :: pt g (ag (M.flatMap eN ++ sp) 255) :: R) inferInstance (Ent.cons ((s5 rfl h2 h3 h5).trans (qZ rfl rfl)));refine bu (M, O, oa, oc) ?_ (he := ?_)
 exact ⟨hk4, hF.no (fun x hx q => by
  rcases hok with ⟨h0, _⟩ | ⟨r, _, h1, _⟩;grind
  exact g6_3 (by omega)), by dsimp only; omega⟩
 exact Ent.trans (B := osl 3 1 (.slice oa O.length oc) O :: pt b (jb a2 M.length c2) :: osl 255 2 (.slice a2 M.length c2) (M.flatMap eN) :: R) inferInstance (Ent.cons (qZ rfl rfl));intro ⟨M2, O2, a4, c4⟩ ⟨hk4, hF2, hO2⟩;refine aw ?_;refine aa bY ?_;refine bR (k + 1, M2, O2, a4, c4) ?_;grind;refine aw ?_;obtain rfl : k = 4 := by omega
 obtain ⟨hM, hm⟩ := hF.done hl;subst hM;rw [hm];refine ac ?_;exact ⟨_, ⟨oa, oc, rfl, rfl⟩, IO⟩
theorem a5H {a b : Nat} (c : a < 4294967296) (d : b < 4294967296) : decide (u32 (a + 2147483648) < u32 (b + 2147483648)) = decide (iN a < iN b) := by
 apply Qaz.2;have e : ∀ x : Nat, x < 4294967296 → iN x = if x < 2147483648 then (x : Int) else (x : Int) - 4294967296 := fun x f => by
  simp only [iN, IntKind.wrap, IntKind.bits, IntKind.signed];simp;omega
 rw [e a c, e b d];unfold u32;split <;> split <;> omega
theorem FY {a n : Nat} (h : ¬ (2147483648 ≤ a ∧ 0 < n)) (b : a < 4294967296) (f : n < 32) : u32 (jK .i32 (iN a) n) = a / 2 ^ n := by
 have e : iN a = if a < 2147483648 then (a : Int) else (a : Int) - 4294967296 := by
  simp only [iN, IntKind.wrap, IntKind.bits, IntKind.signed];simp;omega
 by_cases c : n = 0;subst c;rw [Nat.pow_zero, Nat.div_one];have : jK .i32 (iN a) ((0 : Nat) : Int) = iN a := by
  unfold jK;simp
 rw [this, e];unfold u32;split <;> omega;have d : a < 2147483648 := by omega
 rw [e, Qad d, jQ (k := .i32) (s := n) (by show n ≤ 32; omega), vQ];exact QaI (QbR _ _) b
theorem a5I {a n : Nat} (h : 2147483648 ≤ a) (f : 0 < n) (i : a < 4294967296) (j : n < 32) : u32 (jK .i32 (iN a) n) = (a / 2 ^ n) ||| (4294967296 - 2 ^ (32 - n)) := by
 have e : iN a = (a : Int) - 4294967296 := by
  simp only [iN, IntKind.wrap, IntKind.bits, IntKind.signed];simp;omega
 have k : ∀ n, n < 32 → 0 < n → ∃ q, 2 ^ n * 2 ^ (32 - n) = 4294967296 ∧ 0 < 2 ^ n ∧ 0 < 2 ^ (32 - n) ∧ q = 2 ^ n := fun n h f => ⟨2 ^ n, by rw [← Nat.pow_add, show n + (32 - n) = 32 by omega], Qcr _, Qcr _, rfl⟩
 obtain ⟨_, b, c, l, _⟩ := k n j f;have m : a / 2 ^ n < 2 ^ (32 - n) := by
  rw [Nat.div_lt_iff_lt_mul c, QcF, b]; exact i
 have g : 4294967296 - 2 ^ (32 - n) = 2 ^ (32 - n) * (2 ^ n - 1) := by
  rw [Nat.mul_sub, QaB, QcF, b]
 have d : (a / 2 ^ n) ||| (4294967296 - 2 ^ (32 - n)) = 2 ^ (32 - n) * (2 ^ n - 1) + a / 2 ^ n := by
  rw [g, QcY, Qbk m]
 rw [d, ← g, e];have o : jK .i32 ((a : Int) - 4294967296) (n : Int) = ((a / 2 ^ n : Nat) : Int) - ((2 ^ (32 - n) : Nat) : Int) := by
  unfold jK;rw [Qae, Qbg (show n ≤ IntKind.bits .i32 by show n ≤ 32; omega)];rw [show ((2 : Int) ^ n) = ((2 ^ n : Nat) : Int) by push_cast; rfl, Int.fdiv_eq_ediv_of_nonneg _ (Int.natCast_nonneg _)]
  rw [show (a : Int) - 4294967296 = (a : Int) + ((2 ^ n : Nat) : Int) * (-((2 ^ (32 - n) : Nat) : Int)) by
   rw [Int.mul_neg, ← Int.natCast_mul, b]; rfl]
  rw [Int.add_mul_ediv_left _ _ (by omega)];rw [← Int.natCast_ediv]; rfl
 rw [o];have p : 2 ^ (32 - n) ≤ 2147483648 := by
  have : 2 ^ (32 - n) ≤ 2 ^ 31 := Qcu (by decide) (by omega);exact this
 unfold u32;omega
theorem a5J {n} (a : 0 < n) (b : n < 32) : iw .u32 4294967295 (32 - n : Nat) = (4294967296 - 2 ^ (32 - n) : Nat) := by
 have : ∀ m, m < 32 → 0 < m → iw .u32 4294967295 ((32 - m : Nat) : Int) = ((4294967296 - 2 ^ (32 - m) : Nat) : Int) := by decide +kernel
 exact this n b a
theorem a5K : ∀ a, a < 42 → 1 ≤ a → a ≤ 13 → fX a = 7 := by decide +kernel
theorem MJ : ∀ a, a < 42 → ((14 ≤ a ∧ a ≤ 21) ∨ (23 ≤ a ∧ a ≤ 25) ∨ a = 33) → fX a = 11 := by decide +kernel
theorem MK : ∀ a, a < 42 → (a = 22 ∨ a = 32 ∨ a = 37) → fX a = 9 := by decide +kernel
theorem a5L : ∀ a, a < 42 → (a = 26 ∨ a = 27 ∨ (28 ≤ a ∧ a ≤ 31)) → fX a = 14 := by decide +kernel
theorem ML : ∀ a, a < 42 → a = 38 → fX a = 10 := by decide +kernel
theorem a5M : ∀ a, a < 42 → (a = 0 ∨ a = 34 ∨ a = 35 ∨ a = 36 ∨ a = 39 ∨ a = 40 ∨ a = 41) → fX a = 0 := by decide +kernel
theorem a5N {i} (h : gH i = true) : mN i = u32 ((i.op + i.d * 64 + i.a * 1024 + i.b * 16384 : Nat) + (u32 (iw .u32 (u32 i.im) 18))) := by
 obtain ⟨v, m, n, o, w⟩ := rJ h;have p : ∀ x : Nat, x < 4294967296 → iw .u32 ((x : Nat) : Int) 18 = ((x % 16384 * 262144 : Nat) : Int) := fun x e => by
  unfold iw;rw [show min (18 : Int).toNat (IntKind.bits .u32) = 18 by decide, d8];unfold u32;omega
 have c : ∀ (x k : Nat), x < 16 → k ≤ 14 → iw .u32 ((x : Nat) : Int) ((k : Nat) : Int) = ((x * 2 ^ k : Nat) : Int) := by
  have : ∀ x, x < 16 → ∀ k, k ≤ 14 → iw .u32 ((x : Nat) : Int) ((k : Nat) : Int) = ((x * 2 ^ k : Nat) : Int) := by decide +kernel
  exact fun x k a b => this x a k b
 have f := c i.d 6 m (by decide);have g := c i.a 10 n (by decide);have j := c i.b 14 o (by decide);unfold mN;have e := dK i.im;rw [p _ e];rw [show ((6 : Nat) : Int) = 6 from rfl] at f;rw [show ((10 : Nat) : Int) = 10 from rfl] at g;rw [show ((14 : Nat) : Int) = 14 from rfl] at j;rw [f, g, j];have q : i.op < 2 ^ 6 := by omega
 rw [mH (a := i.op) (b := i.d * 2 ^ 6) (by omega) (by omega)];rw [show i.op ||| i.d * 2 ^ 6 = 2 ^ 6 * i.d + i.op by rw [QcY, QcF, Qbk q]];have r : 2 ^ 6 * i.d + i.op < 2 ^ 10 := by omega
 rw [mH (b := i.a * 2 ^ 10) (by omega) (by omega)];rw [show (2 ^ 6 * i.d + i.op) ||| i.a * 2 ^ 10 = 2 ^ 10 * i.a + (2 ^ 6 * i.d + i.op) by rw [QcY, QcF i.a, Qbk r]];have s : 2 ^ 10 * i.a + (2 ^ 6 * i.d + i.op) < 2 ^ 14 := by omega
 rw [mH (b := i.b * 2 ^ 14) (by omega) (by omega)];rw [show (2 ^ 10 * i.a + (2 ^ 6 * i.d + i.op)) ||| i.b * 2 ^ 14 = 2 ^ 14 * i.b + (2 ^ 10 * i.a + (2 ^ 6 * i.d + i.op)) by rw [QcY, QcF i.b, Qbk s]];obtain ⟨y, l⟩ : ∃ y, u32 i.im % 16384 = y := ⟨_, rfl⟩
 have t : y < 16384 := by rw [← l]; exact Qce _ (by decide)
 rw [l];have u : 2 ^ 14 * i.b + (2 ^ 10 * i.a + (2 ^ 6 * i.d + i.op)) < 2 ^ 18 := by omega
 rw [show y * 262144 = y * 2 ^ 18 from rfl, mH (b := y * 2 ^ 18) (by omega) (by omega)];rw [show (2 ^ 14 * i.b + (2 ^ 10 * i.a + (2 ^ 6 * i.d + i.op))) ||| y * 2 ^ 18 = 2 ^ 18 * y + (2 ^ 14 * i.b + (2 ^ 10 * i.a + (2 ^ 6 * i.d + i.op))) by rw [QcY, QcF y, Qbk u]];rw [vQ (by omega), vQ (by omega)];unfold u32;omega
section
variable (W0 : World) (R : List HP) (a b : Nat)
theorem a5O im : sQ W0 310 [iQ im] R (wV (uo im)) R := by
 refine am func310 ntmps310 ?_;refine aa (bD (d8 im)) ?_;refine aa (lh rfl rfl (by decide) (yx _ _)) ?_;exact ac ao
theorem a5P (a : Nat) (h : a < 42) : sQ W0 311 [iQ a] R (.tuple #[iQ (if 14 ≤ a ∧ a ≤ 21 then ib a else 0 : Nat), .bool (decide (14 ≤ a ∧ a ≤ 21))]) R := by
 refine am func311 ntmps311 ?_;refine ai (fun f => ?_) fun f => ?_;refine az ?_;obtain rfl : a = 14 := by omega
 exact ao;refine ai (fun g => ?_) fun g => ?_;refine az ?_;obtain rfl : a = 15 := by omega
 exact ao;refine ai (fun i => ?_) fun i => ?_;refine az ?_;obtain rfl : a = 16 := by omega
 exact ao;refine ai (fun j => ?_) fun j => ?_;refine az ?_;obtain rfl : a = 17 := by omega
 exact ao;refine ai (fun b => ?_) fun b => ?_;refine az ?_;obtain rfl : a = 18 := by omega
 exact ao;refine ai (fun c => ?_) fun c => ?_;refine az ?_;obtain rfl : a = 19 := by omega
 exact ao;refine ai (fun d => ?_) fun d => ?_;refine az ?_;obtain rfl : a = 20 := by omega
 exact ao;refine ai (fun e => ?_) fun e => ?_;refine az ?_;obtain rfl : a = 21 := by omega
 exact ao;refine az ?_;rw [Qaa (by omega), Qal (by omega)];exact ao
theorem MM p : sQ W0 355 [.bool p] R (wV (oS p)) R := by
 refine am func355 ntmps355 ?_;refine ai (fun a => ?_) fun a => ?_;rw [show oS p = 1 by rw [a]; rfl];exact ac ao;rw [show oS p = 0 by rw [show p = false by simpa using a]; rfl];exact ac ao
theorem MN (c : a < 4294967296) (d : b < 4294967296) : sQ W0 356 [wV a, wV b] R (.bool (decide (iN a < iN b))) R := by
 rw [← a5H c d, ← yy];refine am func356 ntmps356 ?_;refine aa (db rfl rfl (d8 _)) ?_;refine aa (db rfl rfl (d8 _)) ?_;exact ac ao
theorem a5Q n (hn : n < 32) (ha : a < 4294967296) : sQ W0 354 [wV a, wV n] R (wV (u32 (jK .i32 (iN a) n))) R := by
 have hd : a / 2 ^ n < 4294967296 := QaI (QbR _ _) ha;refine am func354 ntmps354 ?_;refine ae rfl (j0 rfl rfl (by omega) (jQ (k := .u32) (s := n) (by show n ≤ 32; omega))) ?_;refine ae rfl (bA rfl) (aL (aH (aO (aO (aX (ae rfl (aM rfl) (ae rfl (vf rfl rfl) (ae rfl (aM rfl) ?_))))))));refine iF rfl rfl rfl (fun g2_3 => ?_) fun g2_3 => ?_;refine ae rfl (aM rfl) ?_;refine cI rfl rfl (ae rfl (tQ rfl rfl) (ae rfl (m5 rfl rfl) (aL (aH ?_))));refine aA rfl (fun c2 => ?_) fun c2 => ?_;have h1 : 2147483648 ≤ a := by omega
 have h2 : 0 < n := by omega
 rw [a5I h1 h2 ha hn];have hf := a5J h2 hn;refine aw ?_;refine aa (nU (32 - n)) ?_;refine aa (lh rfl rfl (by omega) hf) ?_;refine aa (mD rfl rfl (mH hd (Nat.sub_lt (by decide) (Qcr _)))) ?_;refine ac ?_
 first | exact ⟨_, ⟨rfl, rfl⟩, inferInstance⟩ | (rw [FY (by omega) ha hn]; exact ⟨_, ⟨rfl, rfl⟩, inferInstance⟩)
 refine aw ?_;refine ac ?_
 first | exact ⟨_, ⟨rfl, rfl⟩, inferInstance⟩ | (rw [FY (by omega) ha hn]; exact ⟨_, ⟨rfl, rfl⟩, inferInstance⟩)
 refine aw ?_;refine ac ?_
 first | exact ⟨_, ⟨rfl, rfl⟩, inferInstance⟩ | (rw [FY (by omega) ha hn]; exact ⟨_, ⟨rfl, rfl⟩, inferInstance⟩)
theorem MO (c : Nat) (h : c < 42) (e : a < 4294967296) (f : b < 4294967296) : sQ W0 312 [iQ c, wV a, wV b] R (.tuple #[wV (if 1 ≤ c ∧ c ≤ 13 then kw c a b else 0), iQ (if 1 ≤ c ∧ c ≤ 13 then 0 else 1)]) R := by
 refine am func312 ntmps312 ?_;refine ai (fun v => ?_) fun v => ?_;refine aa (db rfl rfl (d8 _)) ?_;refine az ?_;obtain rfl : c = 1 := by omega
 exact ao;refine ai (fun w => ?_) fun w => ?_;refine aa (lg rfl rfl (d8 _)) ?_;refine az ?_;obtain rfl : c = 2 := by omega
 exact ao;refine ai (fun x => ?_) fun x => ?_;refine aa (eH rfl rfl (lk e f)) ?_;refine az ?_;obtain rfl : c = 3 := by omega
 exact ao;refine ai (fun y => ?_) fun y => ?_;refine aa (mD rfl rfl (mH e f)) ?_;refine az ?_;obtain rfl : c = 4 := by omega
 exact ao;refine ai (fun g => ?_) fun g => ?_;refine aa (Hi rfl rfl (Lv a b)) ?_;refine az ?_;obtain rfl : c = 5 := by omega
 exact ao;refine ai (fun i => ?_) fun i => ?_;refine aa (dT rfl rfl (by decide) (iJ b 32)) ?_;refine aa (lh rfl rfl (by omega) (yx _ _)) ?_;refine az ?_;obtain rfl : c = 6 := by omega
 exact ao;refine ai (fun j => ?_) fun j => ?_;refine aa (dT rfl rfl (by decide) (iJ b 32)) ?_;refine aa (j0 rfl rfl (by omega) (jQ (k := .u32) (s := b % 32) (by have := Qce b (show 0 < 32 by decide); show b % 32 ≤ 32; omega))) ?_;refine az ?_;obtain rfl : c = 7 := by omega
 exact ao;refine ai (fun l => ?_) fun l => ?_;refine aa (dT rfl rfl (by decide) (iJ b 32)) ?_;refine ah (aC call354 (a5Q W0 _ a (b % 32) (Qce _ (by decide)) e)) ?_;refine az ?_;obtain rfl : c = 8 := by omega
 exact ao;refine ai (fun m => ?_) fun m => ?_;refine ah (aC call356 (MN W0 _ a b e f)) ?_;refine ah (aC call355 (MM W0 _ _)) ?_;refine az ?_;obtain rfl : c = 9 := by omega
 exact ao;refine aA rfl (fun n => ?_) fun n => ?_;refine aO ?_;refine aX (ae rfl (aM rfl) (ae rfl (aM rfl) (ae rfl (nu rfl rfl) (aD rfl (iE call355 rfl (MM W0 _ _)) ?_))));rintro _ A ⟨rfl, o⟩;obtain rfl := o.symm;rw [yy];refine aw ?_;refine az ?_;obtain rfl : c = 10 := by omega
 exact ao;refine aw ?_;refine ai (fun p => ?_) fun p => ?_;refine aa (pY rfl rfl (d8 _)) ?_;refine az ?_;obtain rfl : c = 11 := by omega
 exact ao;refine aA rfl (fun q => ?_) fun q => ?_;refine aO ?_;refine aO (aX (ae rfl (aM rfl) (ae rfl (ix rfl rfl) (aL (aH ?_)))));refine aA rfl (fun r => ?_) fun r => ?_;refine au 10 ?_;refine az ?_;obtain rfl : c = 12 := by omega
 obtain rfl : b = 0 := by omega
 exact ao;refine aw ?_;obtain rfl : c = 12 := by omega
 have d : b ≠ 0 := by omega
 have z : a / b < 4294967296 := QaI (QbR _ _) e;rw [Qad (show 1 ≤ 12 ∧ 12 ≤ 13 by decide), Qad (show 1 ≤ 12 ∧ 12 ≤ 13 by decide), show kw 12 a b = a / b from Qaa d];refine aa (nr rfl rfl (by omega) (by rw [ql]; exact cW ⟨Int.natCast_nonneg _, Int.ofNat_lt.2 z⟩ : IntKind.wrap .u32 (Int.tdiv (a : Int) (b : Int)) = ((a / b : Nat) : Int))) ?_;exact az ao;refine aw ?_;refine aA rfl (fun t => ?_) fun t => ?_;refine aO ?_;refine aO (aX (ae rfl (aM rfl) (ae rfl (ix rfl rfl) (aL (aH ?_)))));refine aA rfl (fun u => ?_) fun u => ?_;refine au 11 ?_;refine az ?_;obtain rfl : c = 13 := by omega
 obtain rfl : b = 0 := by omega
 exact ao;refine aw ?_;obtain rfl : c = 13 := by omega
 have d : b ≠ 0 := by omega
 rw [Qad (show 1 ≤ 13 ∧ 13 ≤ 13 by decide), Qad (show 1 ≤ 13 ∧ 13 ≤ 13 by decide), show kw 13 a b = a % b from Qaa d];refine aa (dT rfl rfl (by omega) (iJ a b)) ?_;exact az ao;refine aw ?_;refine az ?_;rw [Qaa (by omega), Qaa (by omega)];exact ao
theorem a5R (c : Nat) (h : 28 ≤ c ∧ c ≤ 31) (d : a < 4294967296) (e : b < 4294967296) : sQ W0 313 [iQ c, wV a, wV b] R (.tuple #[.bool (un c a b), iQ 0]) R := by
 refine am func313 ntmps313 ?_;refine aA rfl (fun f => ?_) fun f => ?_;refine aO ?_;refine aX (ae rfl (aM rfl) (ae rfl (aM rfl) (ae rfl (ix rfl rfl) (ae rfl (bA rfl) (ae rfl (bA rfl) (aL (aH (dE (mB (iU (bX (.inl rfl) (.cons (aS rfl) (.cons (aS rfl) .nil)) ?_)))))))))));obtain rfl : c = 28 := by omega
 exact ⟨_, ⟨by rw [Ff]; rfl, rfl⟩, IO⟩;refine aw ?_;refine aA rfl (fun g => ?_) fun g => ?_;refine aO ?_;refine aX (ae rfl (aM rfl) (ae rfl (aM rfl) (ae rfl (nt rfl rfl) (ae rfl (bA rfl) (ae rfl (bA rfl) (aL (aH (dE (mB (iU (bX (.inl rfl) (.cons (aS rfl) (.cons (aS rfl) .nil)) ?_)))))))))));obtain rfl : c = 29 := by omega
 exact ⟨_, ⟨by rw [LC]; rfl, rfl⟩, IO⟩;refine aw ?_;refine ai (fun i => ?_) fun i => ?_;refine ah (aC call356 (MN W0 _ a b d e)) ?_;refine az ?_;obtain rfl : c = 30 := by omega
 exact ao;refine aA rfl (fun j => ?_) fun j => ?_;refine aO ?_;refine aX (ae rfl (aM rfl) (ae rfl (aM rfl) (ae rfl (nu rfl rfl) (ae rfl (bA rfl) (ae rfl (bA rfl) (aL (aH (dE (mB (iU (bX (.inl rfl) (.cons (aS rfl) (.cons (aS rfl) .nil)) ?_)))))))))));obtain rfl : c = 31 := by omega
 exact ⟨_, ⟨by rw [yy]; rfl, rfl⟩, IO⟩;omega
end
theorem MP {p} [Decidable p] {a b : Int} (h : p ↔ a = b) : decide p = (a == b) := by
 rw [Qag, QaZ, Qak]; exact h
theorem mu {p} [Decidable p] {z} (h : decide p = z) (q : p) : some (Value.bool true) = some (.bool z) := by
 rw [← h, Qah q]
theorem oD {p} [Decidable p] {z} (h : decide p = z) (q : ¬ p) : some (Value.bool false) = some (.bool z) := by
 rw [← h, Qal q]
theorem wC {p r} [Decidable p] [Decidable r] {z} (h : decide p = z) (q : p ↔ r) : some (Value.bool (decide r)) = some (.bool z) := by
 rw [← h, Qaz.2 q]
theorem pr {p} [Decidable p] {z} {a b : Int} (h : decide p = z) (q : p ↔ a = b) : some (Value.bool (a == b)) = some (.bool z) := by
 rw [← h, MP q]
theorem a5S (a : Nat) (h : a < 42) : sQ W0 306 [iQ a] R (.tuple #[.bool (fX a % 2 != 0), .bool (fX a / 2 % 2 != 0), .bool (fX a / 4 % 2 != 0), .bool (fX a / 8 % 2 != 0)]) R := by
 obtain ⟨v, e⟩ : ∃ z, decide (1 ≤ a ∧ a ≤ 13) = z := ⟨_, rfl⟩
 obtain ⟨w, b⟩ : ∃ z, decide ((14 ≤ a ∧ a ≤ 21) ∨ (23 ≤ a ∧ a ≤ 25) ∨ a = 33) = z := ⟨_, rfl⟩
 obtain ⟨x, d⟩ : ∃ z, decide (a = 22 ∨ a = 32 ∨ a = 37) = z := ⟨_, rfl⟩
 obtain ⟨y, c⟩ : ∃ z, decide (a = 26 ∨ a = 27 ∨ (28 ≤ a ∧ a ≤ 31)) = z := ⟨_, rfl⟩
 refine ju 10 func306 ntmps306 ?_;refine cF (fun _ : Unit => True) (fun _ => [(0, iQ a), (6, .bool v)]) (fun _ => R) ?_ ?_;refine au 4 ?_;refine bO (fun j => ?_) fun j => ?_;refine dj () ?_ ?_ ?_;trivial;exact bc rfl (bc (by first | exact wC e (by omega) | exact oD e (by omega)) bK);exact IO;refine dj () ?_ ?_ ?_;trivial;exact bc rfl (bc (by first | exact wC e (by omega) | exact oD e (by omega)) bK);exact IO;intro _ _;refine aA rfl (fun r => ?_) fun r => ?_;refine au 11 ?_;refine aV (.cons (aS rfl) (.cons (aS rfl) (.cons (aS rfl) (.cons (aS rfl) .nil)))) ?_;have q := Qar (e.trans r);rw [a5K a h (by omega) (by omega)];exact ao;refine cF (fun _ : Unit => True) (fun _ => [(0, iQ a), (13, .bool w)]) (fun _ => R) ?_ ?_;have A : ¬ (1 ≤ a ∧ a ≤ 13) := fun q => r (by rw [← e]; exact Qah q);refine aw ?_;refine bO (fun k => ?_) fun k => ?_;refine cz (fun l => ?_) fun l => ?_;refine dj () ?_ ?_ ?_;trivial;exact bc rfl (bc (by first | exact mu b (by omega) | exact pr b (by omega) | exact oD b (by omega)) bK);exact IO;refine bO (fun f => ?_) fun f => ?_;refine cz (fun g => ?_) fun g => ?_;refine dj () ?_ ?_ ?_;trivial;exact bc rfl (bc (by first | exact mu b (by omega) | exact pr b (by omega) | exact oD b (by omega)) bK);exact IO;refine dj () ?_ ?_ ?_;trivial;exact bc rfl (bc (by first | exact mu b (by omega) | exact pr b (by omega) | exact oD b (by omega)) bK);exact IO;refine dj () ?_ ?_ ?_;trivial;exact bc rfl (bc (by first | exact mu b (by omega) | exact pr b (by omega) | exact oD b (by omega)) bK);exact IO;refine bO (fun f => ?_) fun f => ?_;refine cz (fun g => ?_) fun g => ?_;refine dj () ?_ ?_ ?_;trivial;exact bc rfl (bc (by first | exact mu b (by omega) | exact pr b (by omega) | exact oD b (by omega)) bK);exact IO;refine dj () ?_ ?_ ?_;trivial;exact bc rfl (bc (by first | exact mu b (by omega) | exact pr b (by omega) | exact oD b (by omega)) bK);exact IO;refine dj () ?_ ?_ ?_;trivial;exact bc rfl (bc (by first | exact mu b (by omega) | exact pr b (by omega) | exact oD b (by omega)) bK);exact IO;intro _ _;refine aA rfl (fun s => ?_) fun s => ?_;refine au 11 ?_;refine aV (.cons (aS rfl) (.cons (aS rfl) (.cons (aS rfl) (.cons (aS rfl) .nil)))) ?_;have q := Qar (b.trans s);rw [MJ a h q];exact ao;refine cF (fun _ : Unit => True) (fun _ => [(0, iQ a), (32, .bool x)]) (fun _ => R) ?_ ?_;have B : ¬ ((14 ≤ a ∧ a ≤ 21) ∨ (23 ≤ a ∧ a ≤ 25) ∨ a = 33) := fun q => s (by rw [← b]; exact Qah q);refine aw ?_;refine cz (fun m => ?_) fun m => ?_;refine dj () ?_ ?_ ?_;trivial;exact bc rfl (bc (by first | exact mu d (by omega) | exact pr d (by omega)) bK);exact IO;refine cz (fun n => ?_) fun n => ?_;refine dj () ?_ ?_ ?_;trivial;exact bc rfl (bc (by first | exact mu d (by omega) | exact pr d (by omega)) bK);exact IO;refine dj () ?_ ?_ ?_;trivial;exact bc rfl (bc (by first | exact mu d (by omega) | exact pr d (by omega)) bK);exact IO;intro _ _;refine aA rfl (fun t => ?_) fun t => ?_;refine au 11 ?_;refine aV (.cons (aS rfl) (.cons (aS rfl) (.cons (aS rfl) (.cons (aS rfl) .nil)))) ?_
 have q := Qar (d.trans t);rw [MK a h q];exact ao;refine cF (fun _ : Unit => True) (fun _ => [(0, iQ a), (43, .bool y)]) (fun _ => R) ?_ ?_;have C : ¬ (a = 22 ∨ a = 32 ∨ a = 37) := fun q => t (by rw [← d]; exact Qah q);refine aw ?_;refine cz (fun o => ?_) fun o => ?_;refine dj () ?_ ?_ ?_;trivial;exact bc rfl (bc (by first | exact mu c (by omega) | exact wC c (by omega) | exact oD c (by omega)) bK);exact IO;refine cz (fun p => ?_) fun p => ?_;refine dj () ?_ ?_ ?_;trivial;exact bc rfl (bc (by first | exact mu c (by omega) | exact wC c (by omega) | exact oD c (by omega)) bK);exact IO;refine bO (fun i => ?_) fun i => ?_;refine dj () ?_ ?_ ?_;trivial;exact bc rfl (bc (by first | exact mu c (by omega) | exact wC c (by omega) | exact oD c (by omega)) bK);exact IO;refine dj () ?_ ?_ ?_;trivial;exact bc rfl (bc (by first | exact mu c (by omega) | exact wC c (by omega) | exact oD c (by omega)) bK);exact IO;intro _ _;refine ai (fun u => ?_) fun u => ?_;refine aV (.cons (aS rfl) (.cons (aS rfl) (.cons (aS rfl) (.cons (aS rfl) .nil)))) ?_;have q := Qar (c.trans u);rw [a5L a h q];exact ao;have D : ¬ (a = 26 ∨ a = 27 ∨ (28 ≤ a ∧ a ≤ 31)) := fun q => u (by rw [← c]; exact Qah q);refine ai (fun E => ?_) fun E => ?_;refine aV (.cons (aS rfl) (.cons (aS rfl) (.cons (aS rfl) (.cons (aS rfl) .nil)))) ?_;rw [ML a h (by omega)];exact ao;refine aV (.cons (aS rfl) (.cons (aS rfl) (.cons (aS rfl) (.cons (aS rfl) .nil)))) ?_;have A : ¬ (1 ≤ a ∧ a ≤ 13) := fun q => r (by rw [← e]; exact Qah q);have B : ¬ ((14 ≤ a ∧ a ≤ 21) ∨ (23 ≤ a ∧ a ≤ 25) ∨ a = 33) := fun q => s (by rw [← b]; exact Qah q);have C : ¬ (a = 22 ∨ a = 32 ∨ a = 37) := fun q => t (by rw [← d]; exact Qah q);have D : ¬ (a = 26 ∨ a = 27 ∨ (28 ≤ a ∧ a ≤ 31)) := fun q => u (by rw [← c]; exact Qah q);rw [a5M a h (by omega)];exact ao
theorem FZ may (n : Nat) : sQ W0 307 [.bool may, iQ n] R (.bool (gX may n)) R := by
 cases may with
 | false =>
  refine am func307 ntmps307 ?_;refine cy rfl rfl rfl ?_ ?_;intro c;refine aw ?_;refine ac ?_
  first | (rw [show gX false n = true from Qah (by omega)]; exact ⟨_, ⟨rfl, rfl⟩, inferInstance⟩) | (rw [show gX false n = false from Qal (by omega)]; exact ⟨_, ⟨rfl, rfl⟩, inferInstance⟩) | exact absurd g1_4 (by decide) | exact absurd g1_8 (by decide) | exact absurd a (by decide) | exact absurd b (by decide)
  intro c;refine au 3 ?_;refine iF rfl rfl rfl ?_ ?_;intro a;refine aw ?_;refine bO (fun b => ?_) fun b => ?_;refine ac ?_
  first | (rw [show gX false n = true from Qah (by omega)]; exact ⟨_, ⟨rfl, rfl⟩, inferInstance⟩) | (rw [show gX false n = false from Qal (by omega)]; exact ⟨_, ⟨rfl, rfl⟩, inferInstance⟩) | exact absurd g1_4 (by decide) | exact absurd g1_8 (by decide) | exact absurd a (by decide) | exact absurd b (by decide)
  refine ac ?_
  first | (rw [show gX false n = true from Qah (by omega)]; exact ⟨_, ⟨rfl, rfl⟩, inferInstance⟩) | (rw [show gX false n = false from Qal (by omega)]; exact ⟨_, ⟨rfl, rfl⟩, inferInstance⟩) | exact absurd g1_4 (by decide) | exact absurd g1_8 (by decide) | exact absurd a (by decide) | exact absurd b (by decide)
  intro a;refine aw ?_;refine ac ?_
  first | (rw [show gX false n = true from Qah (by omega)]; exact ⟨_, ⟨rfl, rfl⟩, inferInstance⟩) | (rw [show gX false n = false from Qal (by omega)]; exact ⟨_, ⟨rfl, rfl⟩, inferInstance⟩) | exact absurd g1_4 (by decide) | exact absurd g1_8 (by decide) | exact absurd a (by decide) | exact absurd b (by decide)
 | true =>
  refine am func307 ntmps307 ?_;refine cy rfl rfl rfl (fun c => ?_) fun c => ?_;refine au 13 ?_;refine ac ?_
  first | (rw [show gX true n = true from Qah (by omega)]; exact ⟨_, ⟨rfl, rfl⟩, inferInstance⟩) | (rw [show gX true n = decide ((n : Int) < 16) from Qaz.2 (by omega)]; exact ⟨_, ⟨rfl, rfl⟩, inferInstance⟩) | exact absurd (by decide) g1_4 | exact absurd (by omega) g1_8 | exact absurd (by decide) a | exact absurd (by omega) b
  refine au 3 ?_;refine iF rfl rfl rfl (fun a => ?_) fun a => ?_;refine ae rfl (aM rfl) ?_;refine cI rfl rfl (ae rfl (tQ rfl rfl) (cI rfl rfl (ae rfl (m5 rfl rfl) (cI rfl rfl (ae rfl (aM rfl) ?_)))));refine iF rfl rfl rfl (fun b => ?_) fun b => ?_;refine au 10 ?_;refine ac ?_
  first | (rw [show gX true n = true from Qah (by omega)]; exact ⟨_, ⟨rfl, rfl⟩, inferInstance⟩) | (rw [show gX true n = decide ((n : Int) < 16) from Qaz.2 (by omega)]; exact ⟨_, ⟨rfl, rfl⟩, inferInstance⟩) | exact absurd (by decide) g1_4 | exact absurd (by omega) g1_8 | exact absurd (by decide) a | exact absurd (by omega) b
  refine aw ?_;refine ac ?_
  first | (rw [show gX true n = true from Qah (by omega)]; exact ⟨_, ⟨rfl, rfl⟩, inferInstance⟩) | (rw [show gX true n = decide ((n : Int) < 16) from Qaz.2 (by omega)]; exact ⟨_, ⟨rfl, rfl⟩, inferInstance⟩) | exact absurd (by decide) g1_4 | exact absurd (by omega) g1_8 | exact absurd (by decide) a | exact absurd (by omega) b
  refine aw ?_;refine ac ?_
  first | (rw [show gX true n = true from Qah (by omega)]; exact ⟨_, ⟨rfl, rfl⟩, inferInstance⟩) | (rw [show gX true n = decide ((n : Int) < 16) from Qaz.2 (by omega)]; exact ⟨_, ⟨rfl, rfl⟩, inferInstance⟩) | exact absurd (by decide) g1_4 | exact absurd (by omega) g1_8 | exact absurd (by decide) a | exact absurd (by omega) b
theorem MQ {op n} (a : ¬ (op = 18 ∨ op = 19 ∨ op = 20)) (b : ¬ (op = 37 ∨ op = 38)) (h : fX op / 8 % 2 = 0 → n = 0) : du op n = decide (-8192 ≤ n ∧ n ≤ 8191) := by
 rw [du, Qaa a, Qaa b];split
 rename_i q
 have := h q;apply Qaz.2; omega;rfl
theorem G0 i : sQ W0 222 [.agg (fC i).toArray] R (.bool (gH i)) R := by
 obtain ⟨H, I⟩ : ∃ p, (fX i.op % 2 != 0) = p := ⟨_, rfl⟩
 obtain ⟨J, K⟩ : ∃ p, (fX i.op / 2 % 2 != 0) = p := ⟨_, rfl⟩
 obtain ⟨L, M⟩ : ∃ p, (fX i.op / 4 % 2 != 0) = p := ⟨_, rfl⟩
 obtain ⟨A, B⟩ : ∃ p, (fX i.op / 8 % 2 != 0) = p := ⟨_, rfl⟩
 obtain ⟨t, N⟩ : ∃ p, gX H i.d = p := ⟨_, rfl⟩
 obtain ⟨C, O⟩ : ∃ p, gX J i.a = p := ⟨_, rfl⟩
 obtain ⟨E, P⟩ : ∃ p, gX L i.b = p := ⟨_, rfl⟩
 have Q : A = true → fX i.op / 8 % 2 ≠ 0 := fun q => by rw [q] at B; exact QbO.1 B
 have u : gH i = (o8 i.op && t && C && E && du i.op i.im) := by
  unfold gH; rw [I, K, M, N, O, P]
 rw [u];refine am func222 ntmps222 ?_;refine bz fun s => ?_;refine cz (fun v => ?_) fun v => ?_;refine ac ?_;rw [show o8 i.op = false from Qal (by omega)];exact ao;refine ai (fun U => ?_) fun U => ?_;refine ac ?_;rw [show o8 i.op = false from Qal (by omega)];exact ao;have D : 1 ≤ i.op ∧ i.op ≤ 41 := by omega
 rw [show o8 i.op = true from Qah D];refine jO (aC call306 (a5S i.op (by omega))) ?_;rw [I, K, M, B];refine au 11 ?_;refine cF (fun _ : Unit => (t = true ∧ C = true ∧ E = true) ∧ (fX i.op / 8 % 2 = 0 → i.im = 0) ∧ 1 ≤ i.op ∧ i.op ≤ 41) (fun _ => [(1, pV s)]) (fun _ => pt s (ag (fC i) 263) :: R) ?_ ?_;refine au 5 ?_;refine ah (aC OJ (FZ H i.d)) ?_;rw [N];refine cz (fun g => ?_) fun g => ?_;refine ac ?_;rw [show t = false by simpa using g];exact ao;refine ah (aC OJ (FZ J i.a)) ?_;rw [O];refine cz (fun f => ?_) fun f => ?_;refine ac ?_;rw [show t = true by simpa using g, show C = false by simpa using f];exact ao;refine ah (aC OJ (FZ L i.b)) ?_;rw [P];refine cz (fun j => ?_) fun j => ?_;refine ac ?_;rw [show t = true by simpa using g, show C = true by simpa using f, show E = false by simpa using j];exact ao;refine bO (fun c => ?_) fun c => ?_;refine ai (fun S => ?_) fun S => ?_;refine ac ?_;have F : A = false := by simpa using c
 have n : fX i.op / 8 % 2 = 0 := by
  have := B;rw [F] at this;simpa using this
 have G : du i.op i.im = false := by
  rw [du, Qaa (fun q => by have w : fX i.op = 11 := MJ i.op (by omega) (by omega); rw [w] at n; exact absurd n (by decide)), Qaa (fun q => by
   rcases q with q | q;have w : fX i.op = 9 := MK i.op (by omega) (by omega);rw [w] at n; exact absurd n (by decide);have w : fX i.op = 10 := ML i.op (by omega) q
   rw [w] at n; exact absurd n (by decide)), Qad n]
  exact Qal S
 rw [G, QcU];exact ao;refine bu () ?_;refine ⟨⟨by simpa using g, by simpa using f, by simpa using j⟩, fun q => ?_, D⟩
 cases o : A with
 | false => first | omega | (rw [o] at c; exact absurd rfl c) | (rw [o] at c; simp at c)
 | true => exact absurd q (Q o)
 refine bu () ?_;refine ⟨⟨by simpa using g, by simpa using f, by simpa using j⟩, fun q => ?_, D⟩
 cases o : A with
 | false => first | omega | (rw [o] at c; exact absurd rfl c) | (rw [o] at c; simp at c)
 | true => exact absurd q (Q o)
 intro _ ⟨⟨V, W, X⟩, T, D⟩;rw [V, W, X];simp only [Qbb];refine cF (fun _ : Unit => ¬ (i.op = 18 ∨ i.op = 19 ∨ i.op = 20)) (fun _ => [(1, pV s)]) (fun _ => pt s (ag (fC i) 263) :: R) ?_ ?_;refine au 6 ?_;refine cz (fun x => ?_) fun x => ?_;have e : i.op = 18 ∨ i.op = 19 ∨ i.op = 20 := by omega
 refine bO (fun k => ?_) fun k => ?_;rw [show du i.op i.im = decide (i.im ≤ 31) by rw [du, Qad e]; apply Qaz.2; omega];exact ac ao;rw [show du i.op i.im = false by rw [du, Qad e]; apply Qal; omega];exact ac ao;refine cz (fun y => ?_) fun y => ?_;have e : i.op = 18 ∨ i.op = 19 ∨ i.op = 20 := by omega
 refine bO (fun k => ?_) fun k => ?_;rw [show du i.op i.im = decide (i.im ≤ 31) by rw [du, Qad e]; apply Qaz.2; omega];exact ac ao;rw [show du i.op i.im = false by rw [du, Qad e]; apply Qal; omega];exact ac ao;refine ai (fun Y => ?_) fun Y => ?_;have e : i.op = 18 ∨ i.op = 19 ∨ i.op = 20 := by omega
 refine bO (fun k => ?_) fun k => ?_;rw [show du i.op i.im = decide (i.im ≤ 31) by rw [du, Qad e]; apply Qaz.2; omega];exact ac ao;rw [show du i.op i.im = false by rw [du, Qad e]; apply Qal; omega];exact ac ao;exact bu () (by omega);intro _ h;refine cF (fun _ : Unit => ¬ (i.op = 37 ∨ i.op = 38)) (fun _ => [(1, pV s)]) (fun _ => pt s (ag (fC i) 263) :: R) ?_ ?_;refine au 6 ?_;refine cz (fun z => ?_) fun z => ?_;have e : i.op = 37 ∨ i.op = 38 := by omega
 refine bO (fun l => ?_) fun l => ?_;rw [show du i.op i.im = decide (i.im < 9) by rw [du, Qaa h, Qad e]; apply Qaz.2; omega];exact ac ao;rw [show du i.op i.im = false by rw [du, Qaa h, Qad e]; apply Qal; omega];exact ac ao;refine ai (fun Z => ?_) fun Z => ?_;have e : i.op = 37 ∨ i.op = 38 := by omega
 refine bO (fun l => ?_) fun l => ?_;rw [show du i.op i.im = decide (i.im < 9) by rw [du, Qaa h, Qad e]; apply Qaz.2; omega];exact ac ao;rw [show du i.op i.im = false by rw [du, Qaa h, Qad e]; apply Qal; omega];exact ac ao;exact bu () (by omega);intro _ m;refine aw ?_;refine bO (fun r => ?_) fun r => ?_;rw [MQ h m T, show decide (-8192 ≤ i.im ∧ i.im ≤ 8191) = decide (i.im ≤ 8191) from Qaz.2 (by omega)];exact ac ao;rw [MQ h m T, show decide (-8192 ≤ i.im ∧ i.im ≤ 8191) = false from Qal (by omega)];exact ac ao
theorem a5T w (j : w < 4294967296) : sQ W0 146 [wV w] R (.tuple #[.agg (fC (if gH (fq w) then fq w else Bo)).toArray, .bool (gH (fq w))]) R := by
 have l : w / 262144 < 16384 := by omega
 obtain ⟨i, a⟩ : ∃ i, fq w = i := ⟨_, rfl⟩
 rw [a];obtain ⟨z, g⟩ : ∃ z, gH i = z := ⟨_, rfl⟩
 rw [g];refine am func146 ntmps146 ?_;refine bj fun c => ?_;refine gi (b := c) (o' := ag (fC Bo) 263) rfl ?_;refine aw ?_;refine aa (dT rfl rfl (by decide) (iJ w 64)) ?_;refine aa (bD (co (by omega))) ?_;refine aa (j0 rfl rfl (by decide) (jQ (k := .u32) (s := 6) (by decide))) ?_;refine aa (dT rfl rfl (by decide) (iJ (w / 2 ^ 6) 16)) ?_;refine aa (bD (co (by omega))) ?_;refine aa (j0 rfl rfl (by decide) (jQ (k := .u32) (s := 10) (by decide))) ?_;refine aa (dT rfl rfl (by decide) (iJ (w / 2 ^ 10) 16)) ?_;refine aa (bD (co (by omega))) ?_;refine aa (j0 rfl rfl (by decide) (jQ (k := .u32) (s := 14) (by decide))) ?_;refine aa (dT rfl rfl (by decide) (iJ (w / 2 ^ 14) 16)) ?_;refine aa (bD (co (by omega))) ?_;refine aa (j0 rfl rfl (by decide) (jQ (k := .u32) (s := 18) (by decide))) ?_;refine aa (bD (co (by omega))) ?_;refine bj fun d => ?_;refine iW 2 aF ?_;refine cF (fun _ : Unit => True) (fun _ => [(2, pV c), (4, pV d)]) (fun _ => pt c (ag (fC Bo) 263) :: pt d (ag (fC i) 263) :: R) ?_ ?_;refine au 1 ?_;refine gi (b := d) (o' := ag (fC ⟨w % 64, w / 64 % 16, w / 1024 % 16, w / 16384 % 16, ((w / 262144 : Nat) : Int)⟩) 263) rfl ?_;refine aw ?_;refine ai (fun e => ?_) fun e => ?_;refine aa (lg rfl rfl (show IntKind.wrap .i64 (((w / 262144 : Nat) : Int) - 16384) = ((w / 262144 : Nat) : Int) - 16384 from co (by omega))) ?_;refine ar (iX (by exact rfl : (fC ⟨w % 64, w / 64 % 16, w / 1024 % 16, w / 16384 % 16, ((w / 262144 : Nat) : Int)⟩).set 4 (iQ (((w / 262144 : Nat) : Int) - 16384)) = fC ⟨w % 64, w / 64 % 16, w / 1024 % 16, w / 16384 % 16, ((w / 262144 : Nat) : Int) - 16384⟩)) ?_;refine bu () ?_ (he := ?_);trivial;rw [← a, fq, rI, Qaa (by have h : (8192 : Int) ≤ ((w / 262144 : Nat) : Int) := e; omega)];exact IO;refine bu () ?_ (he := ?_);trivial;rw [← a, fq, rI, Qad (by have h : ¬ ((8192 : Int) ≤ ((w / 262144 : Nat) : Int)) := e; omega)];exact IO;intro _ _;refine aw ?_;refine ah (aC OK (G0 i)) ?_;rw [g];refine ai (fun f => ?_) fun f => ?_;refine ar aF ?_;refine aV (.cons (bi C5 pw rfl rfl) (.cons (aS rfl) .nil)) ?_;rw [show z = false by simpa using f];exact ao;refine ar aF ?_;refine aV (.cons (bi C5 pw rfl rfl) (.cons (aS rfl) .nil)) ?_;rw [show z = true by simpa using f];exact ao
theorem wD {a} (h : ¬ (a = 35 ∨ a = 36 ∨ a = 37 ∨ a = 38 ∨ a = 39)) : ie a = ((a : Int) == 40) := by
 rw [Qag, QaZ];unfold ie;rw [Qak];omega
theorem a5U (a : Nat) : sQ W0 223 [iQ a] R (.bool (ie a)) R := by
 refine am func223 ntmps223 ?_;refine cz (fun e => ?_) fun e => ?_;refine ac ?_
 first | (rw [show ie a = true from Qah (by omega)]; exact ⟨_, ⟨rfl, rfl⟩, inferInstance⟩) | (rw [wD (by omega)]; exact ⟨_, ⟨rfl, rfl⟩, inferInstance⟩)
 refine cz (fun f => ?_) fun f => ?_;refine ac ?_
 first | (rw [show ie a = true from Qah (by omega)]; exact ⟨_, ⟨rfl, rfl⟩, inferInstance⟩) | (rw [wD (by omega)]; exact ⟨_, ⟨rfl, rfl⟩, inferInstance⟩)
 refine cz (fun b => ?_) fun b => ?_;refine ac ?_
 first | (rw [show ie a = true from Qah (by omega)]; exact ⟨_, ⟨rfl, rfl⟩, inferInstance⟩) | (rw [wD (by omega)]; exact ⟨_, ⟨rfl, rfl⟩, inferInstance⟩)
 refine cz (fun c => ?_) fun c => ?_;refine ac ?_
 first | (rw [show ie a = true from Qah (by omega)]; exact ⟨_, ⟨rfl, rfl⟩, inferInstance⟩) | (rw [wD (by omega)]; exact ⟨_, ⟨rfl, rfl⟩, inferInstance⟩)
 refine cz (fun d => ?_) fun d => ?_;refine ac ?_
 first | (rw [show ie a = true from Qah (by omega)]; exact ⟨_, ⟨rfl, rfl⟩, inferInstance⟩) | (rw [wD (by omega)]; exact ⟨_, ⟨rfl, rfl⟩, inferInstance⟩)
 refine ac ?_
 first | (rw [show ie a = true from Qah (by omega)]; exact ⟨_, ⟨rfl, rfl⟩, inferInstance⟩) | (rw [wD (by omega)]; exact ⟨_, ⟨rfl, rfl⟩, inferInstance⟩)
theorem G1 : ∀ x, x < 16 → ∀ k, k ≤ 14 → iw .u32 (x : Nat) (k : Nat) = (x * 2 ^ k : Nat) := by decide +kernel
theorem a5V i (c : gH i = true) : sQ W0 308 [.agg (fC i).toArray] R (.tuple #[wV (mN i), iQ 0]) R := by
 obtain ⟨j, f, g, h, k⟩ := rJ c;rw [a5N c];refine am func308 ntmps308 ?_;refine bz fun l => ?_;refine ah (aC OK (G0 i)) ?_;refine aA rfl (fun e => ?_) fun e => ?_;rw [c] at e; exact absurd e (by decide);refine aw ?_;refine aa (bD (cW (by omega))) ?_;refine aa (bD (cW (by omega))) ?_;refine aa (lh rfl rfl (by decide) (G1 i.d f 6 (by decide))) ?_;refine aa (dU (i.op + i.d * 64)) ?_;refine aa (bD (cW (by omega))) ?_;refine aa (lh rfl rfl (by decide) (G1 i.a g 10 (by decide))) ?_;refine aa (dU (i.op + i.d * 64 + i.a * 1024)) ?_;refine aa (bD (cW (by omega))) ?_;refine aa (lh rfl rfl (by decide) (G1 i.b h 14 (by decide))) ?_;refine aa (dU (i.op + i.d * 64 + i.a * 1024 + i.b * 16384)) ?_;refine aa (bD (d8 i.im)) ?_;refine aa (lh rfl rfl (by decide) (yx _ _)) ?_;refine aa (db rfl rfl (d8 _)) ?_;exact az ao
section
variable (W0 : World) (R : List HP) (i : Ins) (rb cb : Nat) (clock : Int) (x : Cpu) (id : Nat)
theorem yV {W0 R} c t : sQ W0 224 [wV c, wV t] R (.agg (cP (mg c t)).toArray) R := by
 refine am func224 ntmps224 ?_;refine ez (dx lc) fun a => ?_;refine aL (aH (aO (aX (ae rfl (aM rfl) (ae rfl (aM rfl) (ae rfl (fR sd lc (aP aR (aP aW (aP aW (aP aR (aP iT (aP aR (aP aW (aP aW (aP aW fQ))))))))) (cA rfl aR rfl rfl (Qab rfl) SetL.eq (cA rfl aW rfl rfl (Qab rfl) SetL.eq (cA rfl aW rfl rfl (Qab rfl) SetL.eq fP)))) ?_))))));refine fh (fN dr rfl rfl rfl rfl rfl) ?_;rintro _ _ rfl;refine aL (aH (dE ?_));exact aV (.cons (bi dL dr rfl rfl) .nil) ao
theorem MR {W0 R} i (a : gH i = true) : sQ W0 225 [.agg (fC i).toArray] R (wV (mN i)) R := by
 refine am func225 ntmps225 ?_;refine bz fun b => ?_;refine ah (aC call308 (a5V i a)) ?_;exact ac ao
theorem tC (a : x.rl.length = 16) pc : sQ W0 227 [pV rb, wV pc] (pt rb (dw x.rl x.pc) :: R) (.agg (cP (lq x pc).1).toArray) (pt rb (dw (lq x pc).2.rl (lq x pc).2.pc) :: R) := by
 refine am func227 ntmps227 ?_;refine bj fun b => ?_;refine fh (m6 aW rfl rfl rfl (by rw [qW a]; decide) (tz a)) ?_;rintro _ _ rfl;refine aL (aH (aO (aX (ae rfl (aM rfl) (ae rfl (fR sd lc (aP aR (aP aW (aP aW (aP aR (aP iT (aP aR (aP aW (aP aW (aP aW fQ))))))))) (cA rfl aR rfl rfl (Qab rfl) SetL.eq (cA rfl aW rfl rfl (Qab rfl) SetL.eq fP))) ?_)))));refine fh (fN dr rfl rfl rfl rfl rfl) ?_;rintro _ _ rfl;refine aL (aH (dE ?_));exact aV (.cons (bi dL dr rfl rfl) .nil) ao
def pu (i : Ins) (x : Cpu) : Nat :=
  if i.op = 22 then uo i.im else if 14 ≤ i.op ∧ i.op ≤ 21 then kw (ib i.op) (bL x.rl i.a) (u32 i.im) else if 1 ≤ i.op ∧ i.op ≤ 13 then kw i.op (bL x.rl i.a) (bL x.rl i.b) else 0
theorem a5W {op} (h : 14 ≤ op ∧ op ≤ 21) : 1 ≤ ib op ∧ ib op ≤ 13 := by
 unfold ib; split;decide;split;decide;omega
theorem MS {i x} (a : CpOk x) : pu i x < 4294967296 := by
 unfold pu
 split; · exact dK _
 split; · exact vR (a.r.at_ _) (dK _)
 split; · exact vR (a.r.at_ _) (a.r.at_ _)
 decide
theorem a5X (e : CpOk x) (h : gH i = true) : sQ W0 226 [.agg (fC i).toArray, pV rb] (pt rb (dw x.rl x.pc) :: R) (.tuple #[wV (pu i x), .bool (decide (i.op ≤ 22))]) (pt rb (dw x.rl x.pc) :: R) := by
 obtain ⟨o, p, j, k, q⟩ := rJ h;have f := e.r.at_ i.a;have l := e.r.at_ i.b;refine am func226 ntmps226 ?_;refine bz fun s => ?_;refine ah (ap wP (uS rb i.a e.r.len j)) ?_;refine ah (ap wP (uS rb i.b e.r.len k)) ?_;refine ai (fun m => ?_) fun m => ?_;refine ah (aC call310 (a5O W0 _ i.im)) ?_;refine az ?_;rw [pu, Qad (by omega), Qah (by omega)];exact ao;refine ah (aC call311 (a5P W0 _ i.op (by omega))) ?_;refine ai (fun d => ?_) fun d => ?_;have g := a5W d;rw [Qad d];refine aa (bD (d8 i.im)) ?_;refine ah (aC call312 (MO W0 _ (bL x.rl i.a) (u32 i.im) (ib i.op) (by omega) f (dK _))) ?_;rw [Qad g, Qad g];refine az ?_;rw [show pu i x = kw (ib i.op) (bL x.rl i.a) (u32 i.im) by rw [pu, Qaa (by omega), Qad d], Qah (by omega)];exact ao;refine ah (aC call312 (MO W0 _ (bL x.rl i.a) (bL x.rl i.b) i.op (by omega) f l)) ?_;refine az ?_;have n : pu i x = if 1 ≤ i.op ∧ i.op ≤ 13 then kw i.op (bL x.rl i.a) (bL x.rl i.b) else 0 := by rw [pu, Qaa (by omega), Qaa d]
 rw [n];by_cases c : 1 ≤ i.op ∧ i.op ≤ 13;rw [Qad c, Qad c, Qah (show i.op ≤ 22 by omega)];exact ao;rw [Qaa c, Qaa c, Qal (show ¬ i.op ≤ 22 by omega)];exact ao
theorem a5Y (n : CpOk x) (w : i.a < 16) (y : i.b < 16) (h : 23 ≤ i.op ∧ i.op ≤ 27) : sQ W0 228 [.agg (fC i).toArray, pV rb] (pt rb (dw x.rl x.pc) :: R) (.agg (cP (rK i x)).toArray) (pt rb (dw x.rl x.pc) :: R) := by
 obtain ⟨d, o⟩ : ∃ a, mQ (bL x.rl i.a) i.im = a := ⟨_, rfl⟩
 obtain ⟨g, e⟩ : ∃ z, decide (i.op = 23 ∨ i.op = 26) = z := ⟨_, rfl⟩
 have A : mR i.op = if g then 4 else 1 := by
  rw [mR, ← e];by_cases q : i.op = 23 ∨ i.op = 26;rw [Qad q, Qah q]; rfl;rw [Qaa q, Qal q]; rfl
 rw [rK, o, A];refine am func228 ntmps228 ?_;refine bz fun f => ?_;refine bj fun j => ?_;refine gi (b := f) (o' := ag (fC i) 263) rfl ?_;refine gi (b := j) (o' := ag (cP mf) 267) rfl ?_;refine aw ?_;refine ah (ap wP (uS rb i.a n.r.len w)) ?_;refine ah (ap wP (uS rb i.b n.r.len y)) ?_;refine aa (bD (d8 i.im)) ?_;refine jP 3 (db rfl rfl (show _ = ((d : Nat) : Int) by rw [← o]; exact d8 _)) ?_;refine cF (fun _ : Unit => True) (fun _ => [(1, pV rb), (2, pV f), (4, pV j), (5, wV (bL x.rl i.a)), (7, wV (bL x.rl i.b)), (9, wV d), (10, .bool g)]) (fun _ => pt f (ag (fC i) 263) :: pt j (ag (cP mf) 267) :: pt rb (dw x.rl x.pc) :: R) ?_ ?_;refine au 5 ?_;refine cz (fun p => ?_) fun p => ?_;refine dj () ?_ ?_ ?_;trivial
 · repeat (first | exact bK | refine bc rfl ?_ | refine bc (by first | exact mu e (by omega) | exact pr e (by omega)) ?_)
 exact IO;refine dj () ?_ ?_ ?_;trivial
 · repeat (first | exact bK | refine bc rfl ?_ | refine bc (by first | exact mu e (by omega) | exact pr e (by omega)) ?_)
 exact IO;intro _ _;refine cF (fun _ : Unit => d % (if g then 4 else 1) = 0) (fun _ => [(1, pV rb), (2, pV f), (4, pV j), (7, wV (bL x.rl i.b)), (9, wV d), (10, .bool g)]) (fun _ => pt f (ag (fC i) 263) :: pt j (ag (cP mf) 267) :: pt rb (dw x.rl x.pc) :: R) ?_ ?_;refine au 4 ?_;refine bO (fun c => ?_) fun c => ?_;refine aa (dT rfl rfl (by decide) (iJ d 4)) ?_;refine ai (fun B => ?_) fun B => ?_;refine ah (aC CI (yV 2 d)) ?_;refine ar aF ?_;refine aV (.cons (bi dL dr rfl rfl) .nil) ?_;rw [Qad (by rw [Qad c]; omega)];exact ao;refine bu () ?_
 first | rw [Qaa c, Nat.mod_one] | (rw [Qad c]; omega)
 refine bu () ?_
 first | rw [Qaa c, Nat.mod_one] | (rw [Qad c]; omega)
 intro _ v;refine au 5 ?_;refine cF (fun _ : Unit => d % (if g then 4 else 1) = 0) (fun _ => [(1, pV rb), (2, pV f), (4, pV j), (7, wV (bL x.rl i.b)), (9, wV d), (11, iQ ((if g then 4 else 1 : Nat) : Int))]) (fun _ => pt f (ag (fC i) 263) :: pt j (ag (cP mf) 267) :: pt rb (dw x.rl x.pc) :: R) ?_ ?_;refine au 5 ?_;refine ai (fun C => ?_) fun C => ?_;refine dj () ?_ ?_ ?_;exact v
 · rw [Qad (by assumption)]
   repeat (first | exact bK | refine bc rfl ?_)
 exact IO;refine dj () ?_ ?_ ?_;exact v
 · rw [Qaa (by assumption)]
   repeat (first | exact bK | refine bc rfl ?_)
 exact IO;intro _ D;obtain ⟨m, t⟩ : ∃ m, (if g then 4 else 1 : Nat) = m := ⟨_, rfl⟩
 rw [t] at D ⊢;rw [Qaa (by omega)];obtain ⟨F, E⟩ : ∃ z, decide (i.op = 26 ∨ i.op = 27) = z := ⟨_, rfl⟩
 refine aw ?_;refine cz (fun l => ?_) fun l => ?_;refine aa (aE (aI (oA n.r.len))) ?_;refine ae rfl (db rfl rfl (d8 _)) ?_;refine ae rfl (fR sd lc (aP aR (aP aW (aP aW (aP aR (aP iT (aP aR (aP aW (aP aW (aP aW fQ))))))))) (cA rfl aR rfl rfl (Qab rfl) SetL.eq (cA rfl aW rfl rfl (Qab rfl) SetL.eq (cA rfl aR rfl rfl (Qab rfl) SetL.eq (cA rfl aW rfl rfl (Qab rfl) SetL.eq (cA rfl aW rfl rfl (Qab rfl) SetL.eq fP)))))) ?_;refine fh (fN dr rfl rfl rfl rfl rfl) ?_;rintro _ _ rfl;refine aL (aH (dE (iU (aV (.cons (bi dL dr rfl rfl) .nil) ?_))));rw [Qad (by omega)];exact ao;refine aA rfl (fun u => ?_) fun u => ?_;refine aO ?_;refine aX (ae rfl (aM rfl) (ae rfl (aM rfl) (ae rfl (aM rfl) (ae rfl (aM rfl) (ae rfl (kI rfl) ?_)))));refine ae rfl (d5 rfl a8j rfl aW rfl (by first | exact Qac _ | rfl)) ?_;refine ae rfl (aE (aI (oA n.r.len))) ?_;refine ae rfl (db rfl rfl (d8 _)) ?_;refine ae rfl (fR sd lc (aP aR (aP aW (aP aW (aP aR (aP iT (aP aR (aP aW (aP aW (aP aW fQ))))))))) (cA rfl aR rfl rfl (Qab rfl) SetL.eq (cA rfl aW rfl rfl (Qab rfl) SetL.eq (cA rfl aR rfl rfl (Qab rfl) SetL.eq (cA rfl aW rfl rfl (Qab rfl) SetL.eq (cA rfl aW rfl rfl (Qab rfl) SetL.eq fP)))))) ?_;refine fh (fN dr rfl rfl rfl rfl rfl) ?_;rintro _ _ rfl;refine aL (aH (dE (iU (aV (.cons (bi dL dr rfl rfl) .nil) ?_))));rw [Qad (by omega)];exact ao;refine jd (aH (aO ?_));refine bq [f, rb] 14 fun s => ?_;refine aj 0 10 s ?_;refine ax 10 s (aE (dm (k := 1) rfl (oA n.r.len))) ?_;refine ax 11 s (db rfl rfl (d8 _)) ?_;refine dp 12 rfl rfl rfl s (fR sd lc (aP aR (aP aW (aP aW (aP aR (aP iT (aP aR (aP aW (aP aW (aP aW fQ))))))))) (cA rfl aR rfl rfl (Qab rfl) SetL.eq (cA rfl aW rfl rfl (Qab rfl) SetL.eq (cA rfl aR rfl rfl (Qab rfl) SetL.eq (cA rfl iT rfl rfl (Qab rfl) SetL.eq (cA rfl aR rfl rfl (Qab rfl) SetL.eq (cA rfl aW rfl rfl (Qab rfl) SetL.eq fP))))))) ?_;refine cp 13 aF fun s => ?_;refine aJ ?_;refine aV (.cons (bi dL dr rfl rfl) .nil) ?_;rw [Qaa (by omega), show decide (i.op = 24) = (((i.op : Nat) : Int) == 24) from MP (by omega)];exact ao
theorem MU (c : CpOk x) (B : i.d < 16) (u : i.a < 16) (v : i.b < 16) (h : 28 ≤ i.op ∧ i.op ≤ 33) : sQ W0 229 [.agg (fC i).toArray, pV rb] (pt rb (dw x.rl x.pc) :: R) (.agg (cP (gm id clock.toNat i x).1).toArray) (pt rb (dw (gm id clock.toNat i x).2.rl (gm id clock.toNat i x).2.pc) :: R) := by
 have w := c.r.at_ i.a;have y := c.r.at_ i.b;obtain ⟨z, t⟩ : ∃ z, un i.op (bL x.rl i.a) (bL x.rl i.b) = z := ⟨_, rfl⟩
 have e : gO (i.d : Int) = true := by simp only [gO, Qaj]; omega
 rw [gm, Qaa (by omega), Qaa (by omega), Qaa (by omega), Qaa (by omega), t];refine am func229 ntmps229 ?_;refine bz fun l => ?_;refine bj fun m => ?_;refine gi (b := l) (o' := ag (fC i) 263) rfl ?_;refine gi (b := m) (o' := ag (cP mf) 267) rfl ?_;refine aw ?_;refine ah (ap wP (uS rb i.a c.r.len u)) ?_;refine ah (ap wP (uS rb i.b c.r.len v)) ?_;refine aa (aE (aI (oA c.r.len))) ?_;refine aa (db rfl rfl (d8 _)) ?_;refine bq [l, rb] 10 fun f => ?_;refine aj 0 3 f ?_;refine ax 3 f (aE (dm (k := 1) rfl (oA c.r.len))) ?_;refine aj 4 2 f ?_;refine ax 6 f (bD (d8 i.im)) ?_;refine ax 7 f (pY rfl rfl (d8 _)) ?_;refine ax 8 f (db rfl rfl (d8 _)) ?_;refine aj 9 1 f ?_;refine aJ ?_;refine cy rfl rfl rfl (fun o => ?_) fun o => ?_;refine au 6 ?_;refine cF (fun _ : Unit => 32 ≤ i.op) (fun _ => [(1, pV rb), (2, pV l), (4, pV m), (9, wV (cQ x.pc)), (10, wV (if i.op = 33 then mQ (bL x.rl i.a) i.im else mP x.pc i.im))]) (fun _ => pt l (ag (fC i) 263) :: pt m (ag (cP mf) 267) :: pt rb (dw x.rl x.pc) :: R) ?_ ?_;refine au 7 ?_;refine ai (fun p => ?_) fun p => ?_;refine aa (bD (d8 i.im)) ?_;refine aa (db rfl rfl (d8 _)) ?_;refine dj () ?_ ?_ ?_;omega
 · rw [Qad (by omega)]
   repeat (first | exact bK | refine bc rfl ?_)
 exact IO;refine dj () ?_ ?_ ?_;omega
 · rw [Qaa (by omega)]
   repeat (first | exact bK | refine bc rfl ?_)
 exact IO;intro _ q;rw [Qaa (by omega), Qad (by omega)];obtain ⟨s, g⟩ : ∃ n, (if i.op = 33 then mQ (bL x.rl i.a) i.im else mP x.pc i.im) = n := ⟨_, rfl⟩
 rw [g];refine aw ?_;refine ah (ap zG (wz rb (cQ x.pc) i.d c.r.len)) ?_;rw [Qad e, Qad e, Qae];refine ah (ap ve (tC W0 _ rb { x with rl := j5 x.rl i.d (cQ x.pc) } (c.r.set i.d (cQ x.pc) (dK _)).len s)) ?_;refine ar aF ?_;exact aV (.cons (bi dL dr rfl rfl) .nil) ao;refine aw ?_;refine aA rfl (fun A => ?_) fun A => ?_;refine cF (fun _ : Unit => 32 ≤ i.op) (fun _ => [(1, pV rb), (2, pV l), (4, pV m), (9, wV (cQ x.pc)), (10, wV (if i.op = 33 then mQ (bL x.rl i.a) i.im else mP x.pc i.im))]) (fun _ => pt l (ag (fC i) 263) :: pt m (ag (cP mf) 267) :: pt rb (dw x.rl x.pc) :: R) ?_ ?_;refine au 7 ?_;refine ai (fun p => ?_) fun p => ?_;refine aa (bD (d8 i.im)) ?_;refine aa (db rfl rfl (d8 _)) ?_;refine dj () ?_ ?_ ?_;omega
 · rw [Qad (by omega)]
   repeat (first | exact bK | refine bc rfl ?_)
 exact IO;refine dj () ?_ ?_ ?_;omega
 · rw [Qaa (by omega)]
   repeat (first | exact bK | refine bc rfl ?_)
 exact IO;intro _ q;rw [Qaa (by omega), Qad (by omega)];obtain ⟨s, g⟩ : ∃ n, (if i.op = 33 then mQ (bL x.rl i.a) i.im else mP x.pc i.im) = n := ⟨_, rfl⟩
 rw [g];refine aw ?_;refine ah (ap zG (wz rb (cQ x.pc) i.d c.r.len)) ?_;rw [Qad e, Qad e, Qae];refine ah (ap ve (tC W0 _ rb { x with rl := j5 x.rl i.d (cQ x.pc) } (c.r.set i.d (cQ x.pc) (dK _)).len s)) ?_;refine ar aF ?_;exact aV (.cons (bi dL dr rfl rfl) .nil) ao;refine aw ?_;rw [Qad (by omega)];refine ah (aC call313 (a5R W0 _ (bL x.rl i.a) (bL x.rl i.b) i.op (by omega) w y)) ?_;rw [t];refine ai (fun j => ?_) fun j => ?_;rw [Qad j];refine ah (ap ve (tC W0 _ rb x c.r.len (mP x.pc i.im))) ?_;refine ar aF ?_;exact aV (.cons (bi dL dr rfl rfl) .nil) ao;rw [Qaa j];refine ah (ap ve (tC W0 _ rb x c.r.len (cQ x.pc))) ?_;refine ar aF ?_;exact aV (.cons (bi dL dr rfl rfl) .nil) ao
theorem BR (e : CpOk x) (y : gH i = true) (m : id < 4) (A : 0 ≤ clock) (h : 34 ≤ i.op) (B : ie i.op = true → dQ x.cs = true) : sQ W0 230 [.agg (fC i).toArray, pV rb, pV cb, iQ clock] (pt rb (dw x.rl x.pc) :: pt cb (dS x.cs id) :: R) (.agg (cP (kA id clock.toNat i x).1).toArray) (pt rb (dw (kA id clock.toNat i x).2.rl (kA id clock.toNat i x).2.pc) :: pt cb (dS (kA id clock.toNat i x).2.cs id) :: R) := by
 obtain ⟨J, K, C, L, z⟩ := rJ y;have o : gO (i.d : Int) = true := by simp only [gO, Qaj]; omega
 have f : 35 ≤ i.op → i.op ≤ 40 → dQ x.cs = true := fun a b => B (by unfold ie; rw [Qak]; omega);rw [kA];refine am func230 ntmps230 ?_;refine bz fun D => ?_;refine bj fun E => ?_;refine gi (b := D) (o' := ag (fC i) 263) rfl ?_;refine gi (b := E) (o' := ag (cP mf) 267) rfl ?_;refine aw ?_;refine aa (aE (aI (oA e.r.len))) ?_;refine aa (db rfl rfl (d8 _)) ?_;refine ai (fun F => ?_) fun F => ?_;refine ah (aC CI (yV 6 0)) ?_;refine ar aF ?_;refine aV (.cons (bi dL dr rfl rfl) .nil) ?_;rw [Qad (by omega)];exact ao;refine ai (fun G => ?_) fun G => ?_;refine aa (aE (aI (oA e.r.len))) ?_;refine ah (aC CI (yV 8 x.pc)) ?_;refine ar aF ?_;refine aV (.cons (bi dL dr rfl rfl) .nil) ?_;rw [Qaa (by omega), Qad (by omega)];exact ao;refine ai (fun H => ?_) fun H => ?_;refine ar aF ?_;refine aV (.cons (bi dL dr rfl rfl) .nil) ?_;rw [Qaa (by omega), Qaa (by omega), Qaa (by omega), Qaa (by omega), Qaa (by omega), qA, Qad (by omega)];exact ao;refine ai (fun I => ?_) fun I => ?_;refine ar aF ?_;refine aV (.cons (bi dL dr rfl rfl) .nil) ?_;rw [Qaa (by omega), Qaa (by omega), Qaa (by omega), Qaa (by omega), Qaa (by omega), qA, Qaa (by omega), Qad (by omega)];exact ao;refine ai (fun s => ?_) fun s => ?_;refine ar aF ?_;refine aV (.cons (bi dL dr rfl rfl) .nil) ?_;rw [Qaa (by omega), Qaa (by omega), Qaa (by omega), Qaa (by omega), Qaa (by omega), qA, Qaa (by omega), Qaa (by omega)];exact ao;refine ai (fun t => ?_) fun t => ?_;rw [Qaa (by omega), Qaa (by omega), Qad (by omega)];refine ah (ap call314 (a5s cb e.cs)) ?_;refine ah (ap ve (tC W0 _ rb x e.r.len (d9 x.cs 2))) ?_;refine ar aF ?_;exact aV (.cons (bi dL dr rfl rfl) .nil) ao;refine aA rfl (fun u => ?_) fun u => ?_;refine au 1 ?_;rw [Qaa (by omega), Qaa (by omega), Qaa (by omega), Qad (by omega)];have g := f (by omega) (by omega);have j : ∃ n : Nat, i.im = (n : Int) ∧ n < 9 := by
  have p := z;rw [du, Qaa (by omega), Qad (by omega)] at p;have := Qar p;exact ⟨i.im.toNat, by omega, by omega⟩
 obtain ⟨n, w, k⟩ := j;refine au 3 ?_;refine jP 1 (aE (aI (v := iQ (n : Int)) (by rw [← w]; rfl))) ?_;refine ah (ap call315 (a5q cb e.cs m n k clock A)) ?_;rw [Qad g, Qad g, show n = i.im.toNat by omega];refine ah (ap zG (wz rb (oW x.cs id clock.toNat i.im.toNat) i.d e.r.len)) ?_;rw [Qad o, Qad o, Qae];refine ah (ap ve (tC W0 _ rb { x with rl := j5 x.rl i.d (oW x.cs id clock.toNat i.im.toNat) } (e.r.set i.d _ (DY e.cs m)).len (cQ x.pc))) ?_;refine ar aF ?_;exact aV (.cons (bi dL dr rfl rfl) .nil) ao;refine aw ?_;rw [Qaa (by omega), Qaa (by omega), Qaa (by omega), Qaa (by omega), Qad (by omega)];have g := f (by omega) (by omega);have j : ∃ n : Nat, i.im = (n : Int) ∧ n < 9 := by
  have p := z;rw [du, Qaa (by omega), Qad (by omega)] at p;have := Qar p;exact ⟨i.im.toNat, by omega, by omega⟩
 obtain ⟨n, w, k⟩ := j;rw [show i.im.toNat = n by omega];refine dV 12 (ap wP (uS rb i.a e.r.len C)) ?_;refine jP 1 (aE (aI (v := iQ (n : Int)) (by rw [← w]; rfl))) ?_;refine ah (ap call316 (a5r cb e.cs n (bL x.rl i.a) k (e.r.at_ _) g)) ?_;refine aA rfl (fun l => ?_) fun l => ?_;refine au 1 ?_;have c : ¬ n ≤ 6 := fun q => l (by rw [Qad q]);rw [Qaa c, Qaa c, Qaa c];refine aw ?_;refine ah (aC call225 (MR i y)) ?_;refine ah (aC CI (yV 1 (mN i))) ?_;refine ar aF ?_;exact aV (.cons (bi dL dr rfl rfl) .nil) ao;refine au 3 ?_;have c : n ≤ 6 := by
  rcases QaC 6 n with q | q;exact absurd (by rw [Qaa (by omega)]; decide) l;exact q
 rw [Qad c, Qad c, Qad c];refine aw ?_;refine ah (ap ve (tC W0 _ rb x e.r.len (cQ x.pc))) ?_;refine ar aF ?_;exact aV (.cons (bi dL dr rfl rfl) .nil) ao
theorem a5Z {id k i x} (h : 1 ≤ i.op ∧ i.op ≤ 22) : gm id k i x = jT i x (pu i x) (cQ x.pc) := by
 rw [gm, pu];by_cases a : i.op ≤ 13;rw [Qad a, Qaa (by omega), Qaa (by omega), Qad (by omega)];rw [Qaa a];by_cases b : i.op ≤ 21;rw [Qad b, Qaa (by omega), Qad (by omega)];rw [Qaa b, Qad (by omega), Qad (by omega)]
theorem G2 (hx : CpOk x) (hi : gH i = true) (hid : id < 4) (hc : 0 ≤ clock) : sQ W0 147 [.agg (fC i).toArray, pV rb, pV cb, iQ clock] (pt rb (dw x.rl x.pc) :: pt cb (dS x.cs id) :: R) (.tuple #[.agg (cP (jU id clock.toNat i x).1).toArray, iQ 0]) (pt rb (dw (jU id clock.toNat i x).2.rl (jU id clock.toNat i x).2.pc) :: pt cb (dS (jU id clock.toNat i x).2.cs id) :: R) := by
 obtain ⟨B, y, p, s, C⟩ := rJ hi;have m : gO (i.d : Int) = true := by simp only [gO, Qaj]; omega
 obtain ⟨t, e⟩ : ∃ k, ie i.op = k := ⟨_, rfl⟩
 obtain ⟨o, f⟩ : ∃ k, dQ x.cs = k := ⟨_, rfl⟩
 rw [jU, e, f];refine am func147 ntmps147 ?_;refine bz fun u => ?_;refine bj fun v => ?_;refine gi (b := u) (o' := ag (fC i) 263) rfl ?_;refine gi (b := v) (o' := ag (cP mf) 267) rfl ?_;refine aw ?_;refine ah (aC OK (G0 i)) ?_;refine aA rfl (fun w => ?_) fun w => ?_;rw [hi] at w; exact absurd rfl w;refine au 2 ?_;refine cF (fun _ : Unit => t = true → o = true) (fun _ => [(1, pV rb), (2, pV cb), (3, iQ clock), (4, pV u), (8, pV v)]) (fun _ => pt u (ag (fC i) 263) :: pt v (ag (cP mf) 267) :: pt rb (dw x.rl x.pc) :: pt cb (dS x.cs id) :: R) ?_ ?_;refine au 4 ?_;refine ah (aC call223 (a5U i.op)) ?_;rw [e];refine bO (fun a => ?_) fun a => ?_;refine ah (ap H7 (BI cb hx.cs)) ?_;rw [show qR x.cs = [.bool (ic x.cs), iQ (gJ x.cs), .bool (!o)] by rw [qR, f]];refine aa (EJ rfl Gs rfl nk rfl) ?_;refine ai (fun l => ?_) fun l => ?_;refine ah (aC call225 (MR i hi)) ?_;refine ah (aC CI (yV 7 (mN i))) ?_;refine ar aF ?_;refine aV (.cons (bi dL dr rfl rfl) (.cons (aS rfl) .nil)) ?_;rw [Qad (by rw [show t = true from a]; first | exact l | (rw [Qbb]; exact l) | (cases o; rfl; exact absurd rfl l))];exact ao;refine bu () ?_;intro q
 first | (simpa using l) | (subst q; exact absurd rfl a) | exact absurd q a
 refine bu () ?_;intro q
 first | (simpa using l) | (subst q; exact absurd rfl a) | exact absurd q a
 intro _ g;rw [Qaa (by cases t <;> cases o <;> first | decide | exact absurd (g rfl) (by decide))];refine aw ?_;refine ah (ap call226 (a5X W0 _ i rb x hx hi)) ?_;refine ai (fun z => ?_) fun z => ?_;rw [a5Z (by omega)];refine ah (ap zG (wz rb (pu i x) i.d hx.r.len)) ?_;rw [Qad m, Qad m, Qae];refine aa (aE (aI (oA (hx.r.set i.d _ (MS hx)).len))) ?_;refine aa (db rfl rfl (d8 _)) ?_;refine ah (ap ve (tC W0 _ rb { x with rl := j5 x.rl i.d (pu i x) } (hx.r.set i.d _ (MS hx)).len (cQ x.pc))) ?_;refine ar aF ?_;exact aV (.cons (bi dL dr rfl rfl) (.cons (aS rfl) .nil)) ao;refine bO (fun n => ?_) fun n => ?_;refine ai (fun A => ?_) fun A => ?_;rw [show gm id clock.toNat i x = (rK i x, x) by rw [gm, Qaa (by omega), Qaa (by omega), Qaa (by omega), Qad (by omega)]];refine ah (ap call228 (a5Y W0 _ i rb x hx p s (by omega))) ?_;refine ar aF ?_;exact aV (.cons (bi dL dr rfl rfl) (.cons (aS rfl) .nil)) ao;refine bO (fun c => ?_) fun c => ?_;refine ai (fun h => ?_) fun h => ?_;refine ah (ap call229 (MU W0 _ i rb clock x id hx y p s (by omega))) ?_;refine ar aF ?_;refine aV (.cons (bi dL dr rfl rfl) (.cons (aS rfl) .nil)) ?_;have j : (gm id clock.toNat i x).2.cs = x.cs := by
  rw [gm, Qaa (by omega), Qaa (by omega), Qaa (by omega), Qaa (by omega)];split;rfl;rw [Qad (by omega)]
 rw [j];exact ao;rw [show gm id clock.toNat i x = kA id clock.toNat i x by rw [gm, Qaa (by omega), Qaa (by omega), Qaa (by omega), Qaa (by omega), Qaa (by omega), Qaa (by omega)]];refine ah (cq H8 (BR W0 _ i rb cb clock x id hx hi hid hc (by omega) (by rw [e, f]; exact g))) ?_;refine ar aF ?_;exact aV (.cons (bi dL dr rfl rfl) (.cons (aS rfl) .nil)) ao;rw [show gm id clock.toNat i x = kA id clock.toNat i x by rw [gm, Qaa (by omega), Qaa (by omega), Qaa (by omega), Qaa (by omega), Qaa (by omega), Qaa (by omega)]];refine ah (cq H8 (BR W0 _ i rb cb clock x id hx hi hid hc (by omega) (by rw [e, f]; exact g))) ?_;refine ar aF ?_;exact aV (.cons (bi dL dr rfl rfl) (.cons (aS rfl) .nil)) ao;refine bO (fun c => ?_) fun c => ?_;refine ai (fun h => ?_) fun h => ?_;refine ah (ap call229 (MU W0 _ i rb clock x id hx y p s (by omega))) ?_;refine ar aF ?_;refine aV (.cons (bi dL dr rfl rfl) (.cons (aS rfl) .nil)) ?_;have j : (gm id clock.toNat i x).2.cs = x.cs := by
  rw [gm, Qaa (by omega), Qaa (by omega), Qaa (by omega), Qaa (by omega)];split;rfl;rw [Qad (by omega)]
 rw [j];exact ao;rw [show gm id clock.toNat i x = kA id clock.toNat i x by rw [gm, Qaa (by omega), Qaa (by omega), Qaa (by omega), Qaa (by omega), Qaa (by omega), Qaa (by omega)]];refine ah (cq H8 (BR W0 _ i rb cb clock x id hx hi hid hc (by omega) (by rw [e, f]; exact g))) ?_;refine ar aF ?_;exact aV (.cons (bi dL dr rfl rfl) (.cons (aS rfl) .nil)) ao;rw [show gm id clock.toNat i x = kA id clock.toNat i x by rw [gm, Qaa (by omega), Qaa (by omega), Qaa (by omega), Qaa (by omega), Qaa (by omega), Qaa (by omega)]];refine ah (cq H8 (BR W0 _ i rb cb clock x id hx hi hid hc (by omega) (by rw [e, f]; exact g))) ?_;refine ar aF ?_;exact aV (.cons (bi dL dr rfl rfl) (.cons (aS rfl) .nil)) ao
end
theorem u8x (w : Nat) (h : w < 4294967296) : u32 (IntKind.wrap .i32 (IntKind.wrap .i8 w)) = if 128 ≤ w % 256 then w % 256 + 4294967040 else w % 256 := by
 unfold u32 IntKind.wrap IntKind.signed IntKind.bits;simp
 repeat' split
 all_goals omega
theorem a51 (w : Nat) (h : w < 4294967296) : u32 (IntKind.wrap .i32 (IntKind.wrap .i16 w)) = if 32768 ≤ w % 65536 then w % 65536 + 4294901760 else w % 65536 := by
 unfold u32 IntKind.wrap IntKind.signed IntKind.bits;simp
 repeat' split
 all_goals omega
theorem a52 w (a : w < 4294967296) n : sQ W0 232 [wV w, iQ n] R (wV (oz w n)) R := by
 rw [oz, u8x w a, a51 w a];refine am func232 ntmps232 ?_;refine ai (fun b => ?_) fun b => ?_;refine aa (dT rfl rfl (by decide) (iJ w 256)) ?_;refine ai (fun c => ?_) fun c => ?_;refine aa (db rfl rfl (show _ = ((w % 256 + 4294967040 : Nat) : Int) by rw [cW (by omega)]; omega)) ?_;refine ac ?_;rw [Qad (by omega), Qad (by omega)];exact ao;refine ac ?_;rw [Qad (by omega), Qaa (by omega)];exact ao;refine ai (fun d => ?_) fun d => ?_;refine aa (dT rfl rfl (by decide) (iJ w 65536)) ?_;refine ai (fun e => ?_) fun e => ?_;refine aa (db rfl rfl (show _ = ((w % 65536 + 4294901760 : Nat) : Int) by rw [cW (by omega)]; omega)) ?_;refine ac ?_;rw [Qaa (by omega), Qad (by omega), Qad (by omega)];exact ao;refine ac ?_;rw [Qaa (by omega), Qad (by omega), Qaa (by omega)];exact ao;refine ac ?_;rw [Qaa (by omega), Qaa (by omega)];exact ao
structure Rz where
  r : Nat
  c : Nat
  v : Nat
  ps : Nat
  pm : Nat
  pl : Nat
  vic : Nat
  tim : Nat
  bx : Nat
  wv : Value
  i : Nat
  k : Cfg
def q8 : List Value := [.int .u32 0, .int .u32 0, .int .u32 0, .int .i64 0, .bool false, .int .i64 0, .int .i64 0, .int .i64 0]
def G3 : List Value := q8 ++ q8 ++ q8
@[reducible] def lZ (z : Rz) (g : Gu) (tv : Value) : List Value := dC z.k ++ [.int .i64 z.i, z.wv, pV z.pl, pV z.r, pV z.c, pV z.v] ++ G3 ++ [pV z.vic, pV z.tim, pV z.bx, tv, .int .i64 g.clock, .bool g.halted, wV 0, wV 0, wV 0, wV 0]
abbrev r9 (z : Rz) (g : Gu) (tv : Value) : Obj := ag (lZ z g tv) 129
def e6 (b : Nat) (x : Rz × Gu) : HP := chk (fun C => ∃ a c, C = [pt b (r9 x.1 x.2 (.slice a x.2.es.length c)), osl 300 21 (.slice a x.2.es.length c) (x.2.es.flatMap ml)])
section
variable {P : Program} {W0 : World} {N : FSz} {K : Act → World → Prop} {e : b0} {A B R R1 R2 : List HP} {b n : Nat} {z : Rz} {g : Gu} {f : FuncId} {args : List Value} {Post : Value → List HP → Prop}
theorem G4 (h : ∀ a c, bE P W0 f args (pt b (r9 z g (.slice a g.es.length c)) :: osl 300 21 (.slice a g.es.length c) (g.es.flatMap ml) :: R) Post) : bE P W0 f args (e6 b (z, g) :: R) Post :=
  qf fun C d => by obtain ⟨a, c, rfl⟩ := d; exact h a c
theorem oE [f : Tk e6 b A (z, g) R] (h : ∀ a c, av W0 N K e (pt b (r9 z g (.slice a g.es.length c)) :: osl 300 21 (.slice a g.es.length c) (g.es.flatMap ml) :: R)) : av W0 N K e A :=
  fT (r := e6) (b := b) (nv fun C d => by obtain ⟨a, c, rfl⟩ := d; exact h a c)
theorem iB {a c vs} [d : Tk pt b A (r9 z g (.slice a n c)) R1] [e : Tk (osl 300 21) (.slice a n c) R1 vs R2] (f : vs = g.es.flatMap ml) (h : n = g.es.length) [k : Ent R2 B] : Ent A (e6 b (z, g) :: B) := by
 subst f; subst h;exact (Ent.ofPerm (d.perm.trans (e.perm.cons _))).trans ((Ent.cons (Ent.cons k)).trans (fH (R := B) (C := [_, _]) ⟨a, c, rfl⟩))
theorem nQ [d : Tk e6 b A (z, g) R] {k v} (e : ∀ f, (lZ z g f)[k]? = some v) : kf (aQ W0 A) b k v := fun w i => by
 obtain ⟨C, ⟨a, c, rfl⟩, h⟩ := (i.perm d.perm).chk;exact (aI (A := pt b (r9 z g (.slice a g.es.length c)) :: osl 300 21 (.slice a g.es.length c) (g.es.flatMap ml) :: R) (e _)) w h
end
section
variable (W0 : World) (R : List HP) (b : Nat) (z : Rz) (g : Gu)
theorem BS tv (a : g.clock < 1000000000) : sQ W0 129 [pV b] (pt b (r9 z g tv) :: R) (iQ (dR g.clock)) (pt b (r9 z g tv) :: R) := by
 refine lL func129 ntmps129 rfl rfl ?_;refine aO (aX (ae rfl (bA rfl) (aL (aH (aO (aX (ae rfl (aM rfl) (ae rfl (kI rfl) ?_))))))));refine ae rfl (d5 rfl s9 rfl aR rfl (by first | exact Qac _ | rfl)) ?_;refine ae rfl (cu di rfl (aI rfl)) ?_;refine ae rfl (lg rfl rfl (co (by omega))) ?_;refine aa (xQ rfl rfl (show _ = ((dR g.clock : Nat) : Int) by unfold dR; split <;> omega)) ?_;exact ac ao
theorem MV {b l m} : bC (SC [(b, 0, l ++ m)]) b 0 l := fun j v hj => by
 have hlt : j < l.length := by rcases QaC j l.length with q | q
                               · exact q
                               rw [Qbl q] at hj; cases hj
 exact kJ (k := 0) (j := j) rfl (by rw [QaA hlt]; exact hj)
theorem uY (d : g.clock < 1000000000) : sQ W0 129 [pV b] (e6 b (z, g) :: R) (iQ (dR g.clock)) (e6 b (z, g) :: R) :=
  G4 fun a c => ge (BS W0 _ b z g _ d) fun v B e => by
 obtain ⟨rfl, rfl⟩ := e;exact ⟨_, ⟨rfl, rfl⟩, iB rfl rfl⟩
theorem uZ (f : g.c.rl.length = 16) k ck x y w : sQ W0 128 [pV b, iQ k, iQ ck, wV x, wV y, wV w] (e6 b (z, g) :: pt z.r (dw g.c.rl g.c.pc) :: R) (.tuple #[]) (e6 b (z, { g with es := ov g.es ⟨k, ck, x, y, w, g.c.rl⟩ }) :: pt z.r (dw g.c.rl g.c.pc) :: R) := by
 refine G4 fun a c => ?_;have j := Kb (e := ⟨k, ck, x, y, w, g.c.rl⟩) f;refine lL func128 ntmps128 rfl rfl ?_;refine aO (aX (ae rfl (aM rfl) (ae rfl (kI rfl) ?_)));refine ae rfl (d5 rfl s9 rfl Gj rfl (by first | exact Qac _ | rfl)) ?_;refine ae rfl (cu No rfl (aI rfl)) ?_;refine ae rfl (CY py rfl) (ae rfl (nu rfl rfl) (aL (aH ?_)));refine aA rfl (fun m => ?_) fun m => ?_;refine fj [(z.r, 0, _)] 23 mixed rfl (bQ bH) (fun d => ?_);refine aj 0 4 d ?_;refine aj 5 8 d ?_;refine fG (is := [4, 13]) (by kernel_rfl) rfl ⟨?_, ?_, trivial⟩;refine dy (dP (aE (aI rfl))) ?_; clear d;rintro _ _ ⟨rfl, rfl⟩;refine ⟨aT, fun d => ?_⟩;refine cg 13 (dP (aE (aI rfl))) fun d => ?_;refine aj 14 2 d ?_;refine ax 16 d (iD Cv rj rfl (MV) (by rw [Qax, f])) ?_;refine ax 17 d (EM f rfl rfl rfl rfl rfl rfl) ?_;refine kl 18 (by kernel_rfl) rfl rfl (iG py zx zy rfl (fm rfl (by simp [f]) i5) rfl (by decide) (by decide) (by decide)) rfl ?_; clear d;rintro _ _ ⟨l, rfl, rfl⟩;refine ⟨aT, fun d => ?_⟩;refine cj 19 (et (sz := 21) (by_ := 96) (info := Tryz.t300) py (by kernel_rfl) rfl rfl rfl rfl (by decide) rfl rfl ee (by simp [f]) (by simp [fi, wV, Value.oneCell']) (by simp only [maxLen]; omega) (by omega)) ?_; clear d;rintro _ _ ⟨h, i, rfl, rfl⟩;refine ⟨aT, fun d => ?_⟩;refine aj 20 2 d ?_;refine cp 22 (iX (by exact rfl : (lZ z g (.slice a g.es.length c)).set 41 (.slice h (g.es.length + 1) i) = lZ z g (.slice h (g.es.length + 1) i))) fun d => ?_;refine i6 ?_;refine bX (.inr rfl) .nil ?_;rw [ov, Qad (by omega)];exact ⟨_, ⟨rfl, rfl⟩, iB (g := { g with es := g.es ++ [⟨k, ck, x, y, w, g.c.rl⟩] }) (by simp [j]) (by simp)⟩;skip;refine dy (dP (aE (aI rfl))) ?_; clear d;rintro _ _ ⟨rfl, rfl⟩;refine ⟨aT, fun d => ?_⟩;refine aj 14 2 d ?_;refine ax 16 d (iD Cv rj rfl (MV) (by rw [Qax, f])) ?_;refine ax 17 d (EM f rfl rfl rfl rfl rfl rfl) ?_;refine fG (is := [4, 18]) (by kernel_rfl) rfl ⟨?_, ?_, trivial⟩;refine dy (dP (aE (aI rfl))) ?_; clear d;rintro _ _ ⟨rfl, rfl⟩;refine ⟨aT, fun d => ?_⟩;refine kl 18 (by kernel_rfl) rfl rfl (iG py zx zy rfl (fm rfl (by simp [f]) i5) rfl (by decide) (by decide) (by decide)) rfl ?_; clear d;rintro _ _ ⟨l, rfl, rfl⟩;refine ⟨aT, fun d => ?_⟩;refine cj 19 (et (sz := 21) (by_ := 96) (info := Tryz.t300) py (by kernel_rfl) rfl rfl rfl rfl (by decide) rfl rfl ee (by simp [f]) (by simp [fi, wV, Value.oneCell']) (by simp only [maxLen]; omega) (by omega)) ?_; clear d;rintro _ _ ⟨h, i, rfl, rfl⟩;refine ⟨aT, fun d => ?_⟩;refine aj 20 2 d ?_;refine cp 22 (iX (by exact rfl : (lZ z g (.slice a g.es.length c)).set 41 (.slice h (g.es.length + 1) i) = lZ z g (.slice h (g.es.length + 1) i))) fun d => ?_;refine i6 ?_;refine bX (.inr rfl) .nil ?_;rw [ov, Qad (by omega)];exact ⟨_, ⟨rfl, rfl⟩, iB (g := { g with es := g.es ++ [⟨k, ck, x, y, w, g.c.rl⟩] }) (by simp [j]) (by simp)⟩;skip;refine nT rfl rfl (iG py zx zy rfl (fm rfl (by simp [f]) i5) rfl (by decide) (by decide) (by decide)) rfl ?_; clear d;rintro _ _ ⟨l, rfl, rfl⟩;refine ⟨aT, fun d => ?_⟩;refine cg 4 (dP (aE (aI rfl))) fun d => ?_
 refine cj 19 (et (sz := 21) (by_ := 96) (info := Tryz.t300) py (by kernel_rfl) rfl rfl rfl rfl (by decide) rfl rfl ee (by simp [f]) (by simp [fi, wV, Value.oneCell']) (by simp only [maxLen]; omega) (by omega)) ?_; clear d;rintro _ _ ⟨h, i, rfl, rfl⟩;refine ⟨aT, fun d => ?_⟩;refine aj 20 2 d ?_;refine cp 22 (iX (by exact rfl : (lZ z g (.slice a g.es.length c)).set 41 (.slice h (g.es.length + 1) i) = lZ z g (.slice h (g.es.length + 1) i))) fun d => ?_;refine aJ ?_;refine bX (.inr rfl) .nil ?_;rw [ov, Qad (by omega)];exact ⟨_, ⟨rfl, rfl⟩, iB (g := { g with es := g.es ++ [⟨k, ck, x, y, w, g.c.rl⟩] }) (by simp [j]) (by simp)⟩;refine aw ?_;refine bX (.inr rfl) .nil ?_;rw [ov, Qaa (by omega)];exact ⟨_, ⟨rfl, rfl⟩, iB rfl rfl⟩
abbrev BU (b : Nat) (z : Rz) (g : Gu) (R : List HP) : List HP := e6 b (z, g) :: pt z.r (dw g.c.rl g.c.pc) :: pt z.c (dS g.c.cs z.i) :: R
theorem yW (d : CpOk g.c) (h : g.clock < 1000000000) cause tval (l : cause < 4294967296) (m : tval < 4294967296) : sQ W0 145 [pV b, wV cause, wV tval] (BU b z g R) (iQ (fD g cause tval).1) (BU b z (fD g cause tval).2 R) := by
 obtain ⟨n, e⟩ : ∃ t, (d9 g.c.cs 1 != 0) = t := ⟨_, rfl⟩
 have j : d9 g.c.cs 1 = 0 ↔ n = false := by rw [← e]; simp
 rw [fD];refine am func145 ntmps145 ?_;refine aa (aE (nQ fun _ => rfl)) ?_;refine aa (aE (aI (oA d.r.len))) ?_;refine aa (aE (nQ fun _ => rfl)) ?_;refine ah (ap call221 (MA z.c d.cs)) ?_;rw [e];refine ai (fun k => ?_) fun k => ?_;rw [Qad (j.2 (by simpa using k))];refine oE (b := b) fun a c => ?_;refine aw ?_;refine ar (iX (by exact rfl : (lZ z g (.slice a g.es.length c)).set 43 (.bool true) = lZ z (hQ g) (.slice a g.es.length c))) ?_;refine eD (B := e6 b (z, hQ g) :: pt z.r (dw g.c.rl g.c.pc) :: pt z.c (dS g.c.cs z.i) :: R) (iB rfl rfl) ?_;refine aw ?_;refine ah (ap sj (uY W0 _ b z (hQ g) h)) ?_;refine ah (cq wQ (uZ W0 _ b z (hQ g) d.r.len 6 ((dR g.clock : Nat) : Int) cause tval g.c.pc)) ?_;exact ac ao;rw [Qaa (fun q => by have := j.1 q; simp_all)];refine oE (b := b) fun a c => ?_;refine bq [b] 15 fun f => ?_;refine aj 0 11 f ?_;refine cg 11 (ap call217 (MB z.c g.c.pc cause tval d.cs d.pc l m)) fun f => ?_;refine aj 12 2 f ?_;refine cp 14 (dq (by rw [qW d.r.len]; decide) (tz d.r.len)) fun f => ?_;refine aJ ?_;refine eD (B := e6 b (z, uO g cause tval) :: pt z.r (dw g.c.rl (d9 g.c.cs 1)) :: pt z.c (dS (me g.c.cs g.c.pc cause tval) z.i) :: R) (iB rfl rfl) ?_;refine aw ?_;refine ah (ap sj (uY W0 _ b z (uO g cause tval) h)) ?_;refine ah (cq wQ (uZ W0 _ b z (uO g cause tval) d.r.len 1 ((dR g.clock : Nat) : Int) cause tval g.c.pc)) ?_;exact ac ao
end
abbrev BV (b : Nat) (z : Rz) (g : Gu) (d : Nat) (fr : List aB) (pg : List Pl) (R : List HP) : List HP := BU b z g (iM z.v z.ps z.pm d fr pg R)
section
variable (W0 : World) (R : List HP) (b : Nat) (z : Rz) (g : Gu) (d : Nat) (fr : List aB) (pg : List Pl)
theorem a53 (h : Pgs pg) (hF : cB fr) (hc : CpOk g.c) (hk : g.clock < 1000000000) e (he : EfOk e) (hx : e.k = 2) : sQ W0 148 [pV b, .agg (cP e).toArray] (BV b z g d fr pg R) (iQ (pq g fr pg e).1) (BV b z (pq g fr pg e).2 d (ww g fr pg e.addr e.width e.val) pg R) := by
 obtain ⟨F, m⟩ : ∃ F, pn g fr pg e.addr e.width 2 = F := ⟨_, rfl⟩
 obtain ⟨n, j⟩ : ∃ f, ww g fr pg e.addr e.width e.val = f := ⟨_, rfl⟩
 rw [pq, m, j];refine am func148 ntmps148 ?_;refine bz fun o => ?_;refine aa (aE (nQ fun _ => rfl)) ?_;refine ah (ap H7 (BI z.c hc.cs)) ?_;refine bj fun s => ?_;refine ar aF ?_;refine aA rfl (fun t => ?_) fun t => ?_;refine au 1 ?_;refine oE (b := b) fun a c => ?_;refine bq [b, o, s] 13 fun l => ?_;refine aj 0 11 l ?_;refine cj 11 (cM call231 (a3K z.v z.ps z.pm d fr pg h hF (ic g.c.cs) (gJ g.c.cs) (!dQ g.c.cs) e.addr he.addr e.width e.val he.val)) ?_; clear l;rintro _ u ⟨rfl, p⟩;obtain rfl := p.symm;rw [show lT fr pg (ic g.c.cs) (gJ g.c.cs) (!dQ g.c.cs) e.addr e.width 2 = F from m, show lU fr pg (ic g.c.cs) (gJ g.c.cs) (!dQ g.c.cs) e.addr e.width e.val = n from j];refine ⟨aT, fun l => ?_⟩;refine aj 12 1 l ?_;refine aJ ?_;refine eD (B := e6 b (z, dG g) :: pt z.r (dw g.c.rl g.c.pc) :: pt z.c (dS g.c.cs z.i) :: pt o (ag (cP e) 267) :: iM z.v z.ps z.pm d n pg R) (iB (g := dG g) rfl rfl) ?_;refine aw ?_;refine ai (fun q => ?_) fun q => ?_;refine aa (bD (d8 F)) ?_;refine aa (pY rfl rfl (d8 _)) ?_;refine aa (db rfl rfl (d8 _)) ?_;refine ah (cM CJ (yW W0 _ b z (dG g) hc hk (qV 5 F) e.addr (dK _) he.addr)) ?_;refine ac ?_;rw [Qad q];exact ao;refine oE (b := b) (z := z) (g := dG g) fun a c => ?_;refine bq [b, o] 9 fun l => ?_;refine aj 0 8 l ?_;refine cp 8 (dq (by rw [qW hc.r.len]; decide) (tz hc.r.len)) fun l => ?_;refine aJ ?_;refine ac ?_;rw [Qaa q];exact ⟨_, ⟨rfl, rfl⟩, iB (g := ng (dG g) e.pc) rfl rfl⟩;omega
theorem a54 (h : Pgs pg) (hF : cB fr) (hc : CpOk g.c) (hk : g.clock < 1000000000) e (he : EfOk e) (hx : e.k = 1) : sQ W0 148 [pV b, .agg (cP e).toArray] (BV b z g d fr pg R) (iQ (pp g fr pg e).1) (BV b z (pp g fr pg e).2 d fr pg R) := by
 obtain ⟨F, n⟩ : ∃ F, pn g fr pg e.addr e.width 1 = F := ⟨_, rfl⟩
 obtain ⟨w, j⟩ : ∃ w, pj g fr pg e.addr e.width 1 = w := ⟨_, rfl⟩
 have s : w < 4294967296 := by rw [← j]; exact uP hF
 have o : gO (e.d : Int) = true := by have := he.d; simp only [gO, Qaj]; omega
 rw [pp, n, j];refine am func148 ntmps148 ?_;refine bz fun m => ?_;refine aa (aE (nQ fun _ => rfl)) ?_;refine ah (ap H7 (BI z.c hc.cs)) ?_;refine bj fun t => ?_;refine ar aF ?_;refine aA rfl (fun u => ?_) fun u => ?_;omega;refine aw ?_;refine oE (b := b) fun a c => ?_;refine bq [b, m, t] 15 fun f => ?_;refine aj 0 9 f ?_;refine cj 9 (cM call143 (LP z.v z.ps z.pm d fr pg h hF (ic g.c.cs) (gJ g.c.cs) (!dQ g.c.cs) e.addr he.addr e.width 1)) ?_; clear f;rintro _ x ⟨rfl, l⟩;obtain rfl := l.symm;rw [show lT fr pg (ic g.c.cs) (gJ g.c.cs) (!dQ g.c.cs) e.addr e.width 1 = F from n, show pi fr pg (ic g.c.cs) (gJ g.c.cs) (!dQ g.c.cs) e.addr e.width 1 = w from j];refine ⟨aT, fun f => ?_⟩;refine aj 10 5 f ?_;refine aJ ?_;refine eD (B := e6 b (z, dG g) :: pt z.r (dw g.c.rl g.c.pc) :: pt z.c (dS g.c.cs z.i) :: pt m (ag (cP e) 267) :: iM z.v z.ps z.pm d fr pg R) (iB (g := dG g) rfl rfl) ?_;refine aw ?_;refine aA rfl (fun p => ?_) fun p => ?_;refine au 4 ?_;refine aa (bD (d8 F)) ?_;refine aa (pY rfl rfl (d8 _)) ?_;refine aa (db rfl rfl (d8 _)) ?_;refine ah (cM CJ (yW W0 _ b z (dG g) hc hk (qV 4 F) e.addr (dK _) he.addr)) ?_;refine ac ?_;rw [Qad p];exact ao;refine au 2 ?_;refine cF (fun _ : Unit => True) (fun _ => [(0, pV b), (3, pV m), (7, wV (if e.signed then oz w e.width else w))]) (fun _ => e6 b (z, dG g) :: pt z.r (dw g.c.rl g.c.pc) :: pt z.c (dS g.c.cs z.i) :: pt m (ag (cP e) 267) :: iM z.v z.ps z.pm d fr pg R) ?_ ?_;refine au 6 ?_;refine ai (fun q => ?_) fun q => ?_;refine ah (aC call232 (a52 w s e.width)) ?_;refine dj () ?_ ?_ ?_;trivial
 · rw [Qad q]
   repeat (first | exact bK | refine bc rfl ?_)
 exact IO;refine dj () ?_ ?_ ?_;trivial
 · rw [Qaa q]
   repeat (first | exact bK | refine bc rfl ?_)
 exact IO;intro _ _;rw [Qaa p];obtain ⟨y, A⟩ : ∃ y, (if e.signed then oz w e.width else w) = y := ⟨_, rfl⟩
 rw [A];refine oE (b := b) (z := z) (g := dG g) fun a c => ?_;refine bq [b, m] 8 fun f => ?_;refine aj 0 7 f ?_;refine cj 7 (ap zG (wz z.r y e.d hc.r.len)) ?_; clear f;rintro _ x ⟨rfl, l⟩;obtain rfl := l.symm;rw [Qad o, Qad o, Qae];refine ⟨aT, fun f => ?_⟩;refine aJ ?_;refine bq [b, m] 9 fun f => ?_;refine aj 0 8 f ?_;refine cp 8 (dq (by rw [qW (by unfold j5; split <;> simp [hc.r.len])]; decide) (tz (by unfold j5; split <;> simp [hc.r.len]))) fun f => ?_;refine aJ ?_;refine ac ?_;exact ⟨_, ⟨rfl, rfl⟩, iB (g := FC (dG g) e.d y e.pc) rfl rfl⟩
end
end
section
structure LRel (ls : List Li) (now : Int) (L : List Nat) : Prop where
  ok : VOk ls now
  m : ∀ n, (ls.getD n default).m = false
  p : ∀ n, (ls.getD n default).p = 0
  mem : ∀ n, n ∈ L ↔ n < 8 ∧ (ls.getD n default).w = true
  inc : L.Pairwise fun a b => (ls.getD a default).s < (ls.getD b default).s
theorem yX n : (List.replicate 8 (default : Li)).getD n default = default := by
 simp only [Qas, List.getElem?_replicate];split <;> rfl
theorem LRel.new : LRel (List.replicate 8 default) 0 [] := by
 refine ⟨⟨rfl, Qcb _, fun n _ => by rw [yX]; decide, fun n k _ _ _ h => by rw [yX] at h; cases h⟩, fun n => by rw [yX]; rfl, fun n => by rw [yX]; rfl, fun n => ?_, List.Pairwise.nil⟩;rw [yX];exact ⟨fun h => (Qck h).elim, fun h => by cases h.2⟩
section
variable {ls : List Li} {now : Int} {L : List Nat}
theorem LRel.lt (h : LRel ls now L) : ∀ x ∈ L, x < 8 := fun x a => ((h.mem x).1 a).1
theorem LRel.nd (h : LRel ls now L) : L.Nodup := h.inc.imp fun {a b} q e => by subst e; omega
theorem MW : ∀ (n : Nat) (l : List Nat), l.Nodup → (∀ x ∈ l, x < n) → l.length ≤ n
 | 0, l, _, h => by
  rcases l with _ | ⟨a, l⟩;exact Qam _;have := h a (Qbj ..); omega
 | n + 1, l, b, h => by
  have c := MW n (l.erase n) (b.erase n) fun x d => by
   have := (b.mem_erase_iff).1 d;have := h x this.2;omega
  rw [List.length_erase] at c;split at c <;> omega
theorem LRel.few (h : LRel ls now L) : L.length ≤ 8 := MW 8 L h.nd h.lt
theorem LRel.best (h : LRel ls now L) : jF ls = L.head? := by
 rcases L with _ | ⟨a, t⟩;unfold jF;rw [List.head?_nil, QbX];intro n g c;simp only [tp, jn, Qao] at c;exact absurd ((h.mem n).2 ⟨by simpa using g, c.1.1⟩) Qck;have d := (h.mem a).1 (Qbj ..);refine M3 h.ok d.1 (by rw [jn, d.2, h.m]; rfl) fun k i f => ?_;simp only [jn, Qao] at f;have b := (h.mem k).2 ⟨i, f.1⟩;unfold qU;rw [h.p, h.p];rcases QaO.1 b with e | e;subst e; exact Qcb _;have := (Qbi.1 h.inc).1 k e;omega
theorem MX {n : Nat} : oB L n = true ↔ n ∈ L := by
 unfold oB;rw [Qbo]
 exact ⟨fun ⟨x, a, e⟩ => by
  have : x = n := by have := QaZ.1 e; omega
  exact this ▸ a, fun a => ⟨n, a, by simp⟩⟩
theorem LRel.raise (h : LRel ls now L) (g : now < 1000000) {n} (o : n < 8) : LRel (mr ls now n) (jZ ls now n) (nP L n) := by
 have r : gr (n : Int) = true := by rw [gr, Qaj]; omega
 have u := h.ok.nn;have i : 0 ≤ now + 1 ∧ now + 1 < 10000000000000000000 := by omega
 rw [mr, jZ, nP, r, Qbb];by_cases q : (ls.getD n default).w = true;rw [MX.2 ((h.mem n).2 ⟨o, q⟩), dif_neg (fun c => by rw [q] at c; cases c.1), Qaa (fun c => by rw [q] at c; cases c)];simpa using h;have q : (ls.getD n default).w = false := by simpa using q
 have f : n ∉ L := fun c => by have := ((h.mem n).1 c).2; rw [q] at this; cases this
 have v : oB L (n : Int) = false := by
  cases e : oB L (n : Int) with
  | false => rfl
  | true => exact absurd (MX.1 e) f
 rw [v, dif_pos ⟨q, i⟩, Qad q];have d : ∀ k, k ≠ n → (ls.set n ⟨true, (ls.getD n default).m, (ls.getD n default).p, now + 1, i⟩).getD k default = ls.getD k default := fun k s => uM s;have j : (ls.set n ⟨true, (ls.getD n default).m, (ls.getD n default).p, now + 1, i⟩).getD n default = ⟨true, (ls.getD n default).m, (ls.getD n default).p, now + 1, i⟩ := wq (by rw [h.ok.len]; exact o);have t : ∀ k ∈ L, k ≠ n := fun k s e => f (e ▸ s);refine ⟨h.ok.set (by omega) (Qcb _) (fun _ => .inl (by show now < now + 1; omega)), fun k => ?_, fun k => ?_, fun k => ?_, ?_⟩;by_cases e : k = n;subst e; rw [j]; exact h.m k;rw [d k e]; exact h.m k;by_cases e : k = n;subst e; rw [j]; exact h.p k;rw [d k e]; exact h.p k;simp only [Bool.not_false, QbM, Qae, QaY, Qbh];by_cases e : k = n;subst e; rw [j]; simp [o];rw [d k e, ← h.mem k]; simp [e];simp only [Bool.not_false, QbM, Qae];rw [List.pairwise_append];refine ⟨List.Pairwise.imp_of_mem (fun {a b} l g q => ?_) h.inc, List.pairwise_singleton _ _, fun a l b g => ?_⟩;rw [d a (t a l), d b (t b g)]; exact q;obtain rfl := Qbh.1 g;rw [d a (t a l), j];have := h.ok.le a (h.lt a l);show _ < now + 1;omega
theorem LRel.took (h : LRel ls now L) : LRel (mt ls) now (s4 L) := by
 unfold mt;rw [h.best];rcases L with _ | ⟨a, t⟩;exact h;have i := (h.mem a).1 (Qbj ..);have b := Qbx.1 h.nd;have l : s4 (a :: t) = t := by
  rw [s4, Qaa (List.cons_ne_nil _ _), iq];show (a :: t).filter (fun x => ((x : Nat) : Int) != ((a : Nat) : Int)) = t;rw [List.filter_cons_of_neg (by simp)];refine QaT.2 fun x d => QbO.2 fun e => ?_;have : x = a := by omega
  exact b.1 (this ▸ d)
 rw [l];show LRel (rW ls a) now t;have c : ∀ k, k ≠ a → (rW ls a).getD k default = ls.getD k default := fun k f => uM f;have g : (rW ls a).getD a default = ⟨false, (ls.getD a default).m, (ls.getD a default).p, (ls.getD a default).s, (ls.getD a default).hs⟩ := wq (by rw [h.ok.len]; exact i.1);have j : ∀ k ∈ t, k ≠ a := fun k f e => b.1 (e ▸ f);refine ⟨h.ok.set (Qcb _) (h.ok.le a i.1) (fun q => by cases q), fun k => ?_, fun k => ?_, fun k => ?_, ?_⟩;by_cases e : k = a;subst e; rw [g]; exact h.m k;rw [c k e]; exact h.m k;by_cases e : k = a;subst e; rw [g]; exact h.p k;rw [c k e]; exact h.p k;by_cases e : k = a;subst e; rw [g]; simp [b.1];rw [c k e, ← h.mem k]; simp [e];refine List.Pairwise.imp_of_mem (fun {x y} d n q => ?_) (Qbi.1 h.inc).2;rw [c x (j x d), c y (j y n)]; exact q
end
structure TRel (x : Tm) (T : List (Int × Int)) : Prop where
  eq : T = x.ti.map fun y => (y.i, y.d)
  len : x.us.length = 4
  us : ∀ k : Nat, k < 4 → (x.us.getD k false = true ↔ ∃ y ∈ x.ti, y.i = (k : Int))
  nd : (x.ti.map (·.i)).Nodup
  id : ∀ y ∈ x.ti, 0 ≤ y.i ∧ y.i < 4
  nn : 0 ≤ x.now
theorem G5 : ∀ (n : Nat) (l : List Int), l.Nodup → (∀ x ∈ l, 0 ≤ x ∧ x < n) → l.length ≤ n
 | 0, l, _, h => by
  rcases l with _ | ⟨a, l⟩;exact Qam _;have := h a (Qbj ..); omega
 | n + 1, l, b, h => by
  have c := G5 n (l.erase (n : Int)) (b.erase _) fun x d => by
   have := (b.mem_erase_iff).1 d;have := h x this.2;omega
  rw [List.length_erase] at c;split at c <;> omega
theorem MY : ∀ {l : List TIt}, (l.map (·.i)).Nodup → ∀ y ∈ l, ∀ z ∈ l, y.i = z.i → y = z
 | [], _, y, d, _, _, _ => (Qck d).elim
 | a :: l, h, y, d, z, g, e => by
  rw [QaL, Qbx] at h;rcases QaO.1 d with b | b <;> rcases QaO.1 g with c | c;rw [b, c];subst b; exact absurd (by rw [e]; exact QbQ (f := fun y : TIt => y.i) c) h.1;subst c; exact absurd (by rw [← e]; exact QbQ (f := fun y : TIt => y.i) b) h.1;exact MY h.2 y b z c e
section
variable {x : Tm} {T : List (Int × Int)}
theorem TRel.new : TRel ⟨[false, false, false, false], 0, []⟩ [] := ⟨rfl, rfl, (fun k a => by
 have : k = 0 ∨ k = 1 ∨ k = 2 ∨ k = 3 := by omega
 rcases this with rfl | rfl | rfl | rfl <;> exact ⟨(fun h => by cases h), (fun q => by obtain ⟨_, h, _⟩ := q; cases h)⟩), QcZ, (fun _ h => (Qck h).elim), Qcb _⟩
theorem TRel.ids (h : TRel x T) : T.map (·.1) = x.ti.map (·.i) := by rw [h.eq, List.map_map]; rfl
theorem TRel.ndT (h : TRel x T) : (T.map (·.1)).Nodup := by rw [h.ids]; exact h.nd
theorem TRel.lenT (h : TRel x T) : T.length = x.ti.length := by rw [h.eq, Qax]
theorem TRel.few (h : TRel x T) : T.length ≤ 4 := by
 have := G5 4 _ h.nd (fun i a => by
  obtain ⟨y, b, rfl⟩ := Qbd.1 a
  exact h.id y b)
 rw [Qax] at this;rw [h.lenT]; exact this
theorem TRel.has (h : TRel x T) {k : Nat} (b : k < 4) : jc T k = x.us.getD k false := by
 rw [Qag, h.us k b, h.eq];unfold jc;rw [List.any_map, Qbo];exact ⟨fun ⟨y, a, e⟩ => ⟨y, a, QaZ.1 e⟩, fun ⟨y, a, e⟩ => ⟨y, a, QaZ.2 e⟩⟩
theorem TRel.full (h : TRel x T) (t : 4 ≤ T.length) : kY x.us = none := by
 have f : ∀ k : Nat, k < 4 → x.us.getD k false = true := fun k r => by
  cases q : x.us.getD k false with
  | true => rfl
  | false =>
   have g : ((k : Int)) ∉ x.ti.map (·.i) := fun c => by
    obtain ⟨y, j, e⟩ := Qbd.1 c;rw [(h.us k r).2 ⟨y, j, e⟩] at q; cases q
   have := G5 4 ((k : Int) :: x.ti.map (·.i)) (Qbx.2 ⟨g, h.nd⟩) (fun i l => by
    rcases QaO.1 l with rfl | l;omega;obtain ⟨y, j, rfl⟩ := Qbd.1 l
    exact h.id y j)
   rw [QaK, Qax, ← h.lenT] at this;omega
 obtain ⟨a, b, c, d, e⟩ : ∃ a b c d, x.us = [a, b, c, d] := by
  have s := h.len
  match h2 : x.us, s with
  | [a, b, c, d], _ => exact ⟨a, b, c, d, rfl⟩
 have m := f 0 (by decide);have n := f 1 (by decide);have o := f 2 (by decide);have p := f 3 (by decide);rw [e] at m n o p ⊢;simp at m n o p;subst m; subst n; subst o; subst p;rfl
theorem TRel.free (h : TRel x T) (h4 : T.length < 4) : ∃ k, k < 4 ∧ kY x.us = some k ∧ BO T = k ∧ jc T k = false := by
 have hex : ∃ k : Nat, k < 4 ∧ jc T (k : Int) = false ∧ ∀ j : Nat, j < k → jc T (j : Int) = true := by
  cases q0 : jc T ((0 : Nat) : Int) with
  | false => exact ⟨0, by decide, q0, fun j hj => absurd hj (QbF j)⟩
  | true =>
  cases q1 : jc T ((1 : Nat) : Int) with
  | false => exact ⟨1, by decide, q1, fun j hj => by obtain rfl : j = 0 := by omega
                                                     exact q0⟩
  | true =>
  cases q2 : jc T ((2 : Nat) : Int) with
  | false => exact ⟨2, by decide, q2, fun j hj => by rcases (by omega : j = 0 ∨ j = 1) with rfl | rfl <;> assumption⟩
  | true =>
  cases q3 : jc T ((3 : Nat) : Int) with
  | false => exact ⟨3, by decide, q3, fun j hj => by rcases (by omega : j = 0 ∨ j = 1 ∨ j = 2) with rfl | rfl | rfl <;> assumption⟩
  | true => exact (FV h4 fun k hk => by rcases (by omega : k = 0 ∨ k = 1 ∨ k = 2 ∨ k = 3) with rfl | rfl | rfl | rfl <;> assumption).elim
 obtain ⟨k, hk, hno, hall⟩ := hex;refine ⟨k, hk, Mb (by rw [h.len]; exact hk) (fun j hj => ?_) ?_, FX hno 4 0 (QaF _) (by omega) fun j _ q => hall j q, hno⟩;rw [← h.has (by omega)]; exact hall j hj;rw [← h.has hk]; exact hno
theorem TRel.armE (h : TRel x T) d : yG x d = uV T d := by
 rw [yG, uV];split;rfl;by_cases a : 4 ≤ T.length;rw [Qad a, Qad (h.full a)];obtain ⟨k, _, e, _⟩ := h.free (by omega);rw [Qaa a, e, Qaa (by simp)]
theorem TRel.armI (h : TRel x T) d : yH x d = uW T d := by
 rw [yH, uW];split;rfl;by_cases a : 4 ≤ T.length;rw [Qad a, h.full a]; rfl;obtain ⟨k, _, e, b, _⟩ := h.free (by omega);rw [Qaa a, e, b]; rfl
theorem TRel.arm (h : TRel x T) d (w : x.now < 1000000) : TRel (tq x d) (uX T d) := by
 have r := h.nn;rw [tq, uX];by_cases p : d < 0;rw [dif_neg (by omega), Qad p]; exact h;rw [dif_pos (by omega), Qaa p];by_cases g : 4 ≤ T.length;rw [Qad g, h.full g]; exact h;obtain ⟨k, l, e, s, m⟩ := h.free (by omega);rw [Qaa g, e, s];have n : ∀ y ∈ x.ti, y.i ≠ (k : Int) := fun y f c => by
  have := (h.us k l).2 ⟨y, f, c⟩;rw [← h.has l, m] at this; cases this
 refine ⟨by rw [h.eq]; simp, by rw [Qap]; exact h.len, fun j t => ?_, ?_, fun y f => ?_, by show 0 ≤ x.now + 1; omega⟩;by_cases c : j = k;subst c;refine ⟨fun _ => ⟨_, List.mem_append_right _ (Qbh.2 rfl), rfl⟩, fun _ => ?_⟩;simp [List.getD, h.len, l];have u : (x.us.set k true).getD j false = x.us.getD j false := by
  simp only [Qas];rw [QaW (fun q => c q.symm)]
 show (x.us.set k true).getD j false = true ↔ _;rw [u, h.us j t];refine ⟨fun ⟨y, f, q⟩ => ⟨y, List.mem_append_left _ f, q⟩, fun ⟨y, f, q⟩ => ?_⟩;rcases QaY.1 f with f | f;exact ⟨y, f, q⟩;obtain rfl := Qbh.1 f;exact absurd q (by show ((k : Int)) ≠ j; omega);show (((x.ti ++ [_]) : List TIt).map fun y => y.i).Nodup;rw [QaH, Qbp];refine ⟨h.nd, by simp, fun a v b o => ?_⟩;obtain ⟨y, f, rfl⟩ := Qbd.1 v;have o : b = (k : Int) := by simpa using o
 rw [o]; exact n y f;rcases QaY.1 f with f | f;exact h.id y f;obtain rfl := Qbh.1 f;show 0 ≤ ((k : Int)) ∧ ((k : Int)) < 4;omega
theorem TRel.fireN (h : TRel x T) now : nf x now = ni T now := by
 rw [nf, ni, h.eq, List.filter_map, Qax];rfl
theorem TRel.fire (h : TRel x T) now : TRel (tu x now) (pS T now) := by
 refine ⟨by rw [pS, h.eq, List.filter_map]; rfl, by show (ja _ _).length = 4; rw [tt]; exact h.len, fun k g => ?_, ?_, fun y a => h.id y (QaD.1 a).1, h.nn⟩;have d : k < x.us.length := by rw [h.len]; exact g
 have j : (ja x.us (x.ti.filter (kZ now))).getD k false = (x.us.getD k false && !((x.ti.filter (kZ now)).any fun z => z.i == (k : Int))) := by
  have := FB x.us (x.ti.filter (kZ now)) k d;simp only [Qas];rw [QaV (by rw [tt]; exact d), QaV d];simpa using this
 show (ja x.us (x.ti.filter (kZ now))).getD k false = true ↔ ∃ y ∈ x.ti.filter fun y => !kZ now y, y.i = (k : Int);rw [j, Qao, h.us k g, Bool.not_eq_true', Qcw];constructor;rintro ⟨⟨y, a, e⟩, f⟩;refine ⟨y, QaD.2 ⟨a, ?_⟩, e⟩
 cases q : kZ now y with
 | false => rfl
 | true => exact absurd (QaZ.2 e) (f y (QaD.2 ⟨a, q⟩))
 rintro ⟨y, a, e⟩;have a := QaD.1 a;refine ⟨⟨y, a.1, e⟩, fun z b c => ?_⟩;have b := QaD.1 b;have := MY h.nd y a.1 z b.1 (e.trans (QaZ.1 c).symm);subst this;rw [b.2] at a;exact absurd a.2 (by decide);exact (QcD _ QbA).nodup h.nd
end
end
section
open Go.RowKit
abbrev BW (b : Nat) (z : Rz) (g : Gu) (L : List Nat) (T : List (Int × Int)) (R : List HP) : List HP := BU b z g (g7 z.vic L :: eS z.tim T :: R)
section
variable (W0 : World) (R : List HP) (b : Nat) (z : Rz) (g : Gu) (L : List Nat) (T : List (Int × Int))
theorem a55 (D : CpOk g.c) (hk : g.clock < 1000000000) (W : LRel g.ls g.ln L) (X : g.ln < 1000000) (Q : TRel g.tm T) : sP W0 142 [pV b] (BW b z g L T R) (fun v B => ∃ L' T', v = .bool (fF (iS g)).1 ∧ B = BW b z (fF (iS g)).2 L' T' R ∧ LRel (fF (iS g)).2.ls (fF (iS g)).2.ln L' ∧ TRel (fF (iS g)).2.tm T') := by
 obtain ⟨ob, H⟩ : ∃ b, o9 g.c.cs = b := ⟨_, rfl⟩
 obtain ⟨K, Y⟩ : ∃ K, nf g.tm ((dR g.clock : Nat) : Int) = K := ⟨_, rfl⟩
 have hF : ni T ((dR g.clock : Nat) : Int) = K := by rw [← Q.fireN, Y]
 have j := Q.fire ((dR g.clock : Nat) : Int);obtain ⟨E, I⟩ : ∃ E, pS T ((dR g.clock : Nat) : Int) = E := ⟨_, rfl⟩
 rw [I] at j;have x2 := W.few;have Z := W.raise X (n := 7) (by decide);obtain ⟨q, p⟩ : ∃ q, iS g = q := ⟨_, rfl⟩
 have F : q.c = g.c := by rw [← p]
 have J : q.halted = g.halted := by rw [← p]
 have M : q.es = g.es := by rw [← p]
 have N : q.clock = g.clock := by rw [← p]
 have O : q.tm = tu g.tm ((dR g.clock : Nat) : Int) := by rw [← p]
 rw [p, fF, F, H];refine lL func142 ntmps142 rfl rfl ?_;refine aO (aX (ae rfl (bA rfl) (aL (aH ?_))));refine cF (fun h : List Nat => LRel q.ls q.ln h) (fun _ => [(0, pV b)]) (fun h => e6 b (z, g) :: pt z.r (dw g.c.rl g.c.pc) :: pt z.c (dS g.c.cs z.i) :: g7 z.vic h :: eS z.tim E :: R) ?_ ?_;refine aO ?_;refine oE (b := b) fun a c => ?_;refine bq [b] 9 fun e => ?_;refine dp 0 rfl rfl rfl e (aM rfl) ?_;refine dp 1 rfl rfl rfl e (kI rfl) ?_;refine dp 2 rfl rfl rfl e (d5 rfl s9 rfl Nx rfl (by first | exact Qac _ | rfl)) ?_;refine dp 3 rfl rfl rfl e (cu isAgg124 rfl (dm (k := 0) rfl rfl)) ?_;refine dp 4 rfl rfl rfl e (aM rfl) ?_;refine cg 5 (ap sj (BS W0 _ b z g _ hk)) fun e => ?_;refine cj 6 (ap call214 (a5G z.tim T Q.few Q.ndT ((dR g.clock : Nat) : Int))) ?_; clear e;rintro _ B_ ⟨fa, fc, rfl, o⟩;obtain rfl := o.symm;rw [hF, I];refine ⟨aT, fun e => ?_⟩;refine aj 7 2 e ?_;refine aJ ?_;refine aA rfl (fun c1 => ?_) fun c1 => ?_;refine aX ?_;refine ae rfl (aM rfl) (ae rfl (kI rfl) ?_);refine ae rfl (d5 rfl s9 rfl Gi rfl (by first | exact Qac _ | rfl)) ?_;refine ae rfl (cu Nn rfl (aI rfl)) ?_;refine aD rfl (gU call43 rfl (MF z.vic L (by omega) 7)) ?_;rintro _ B_ ⟨rfl, o⟩;obtain rfl := o.symm;refine aL (aH ?_);refine bu (nP L 7) ?_ (he := ?_);rw [← p];show LRel (if nf g.tm ((dR g.clock : Nat) : Int) = 0 then g.ls else mr g.ls g.ln 7) (if nf g.tm ((dR g.clock : Nat) : Int) = 0 then g.ln else jZ g.ls g.ln 7) (nP L 7);rw [Y, Qaa (by omega), Qaa (by omega)];exact Z;exact iB rfl rfl;refine aw ?_;refine bu L ?_ (he := ?_);rw [← p];show LRel (if nf g.tm ((dR g.clock : Nat) : Int) = 0 then g.ls else mr g.ls g.ln 7) (if nf g.tm ((dR g.clock : Nat) : Int) = 0 then g.ln else jZ g.ls g.ln 7) L;rw [Y, Qad (by omega), Qad (by omega)];exact W;exact iB rfl rfl;intro h d;clear p;obtain ⟨qc, S, U, s, u, w, A, qh, C, x3, x4, f⟩ := q;dsimp only at F J M N O d ⊢;subst F; subst M; subst N; subst J;rw [← O] at j;have x0 := d.few;have G := d.best;refine oE (b := b) fun a c => ?_;refine aw ?_;refine ah (ap call215 (a5p z.c D.cs)) ?_;rw [H];refine aA rfl (fun c3 => ?_) fun c3 => ?_;refine au 7 ?_;refine ac ?_;rw [Qaa (by simpa using c3)];exact ⟨_, ⟨h, E, rfl, rfl, d, j⟩, iB rfl rfl⟩;refine au 3 ?_;rw [Qad (by simpa using c3)];refine aX (ae rfl (aM rfl) (ae rfl (kI rfl) ?_));refine ae rfl (d5 rfl s9 rfl Gi rfl (by first | exact Qac _ | rfl)) ?_;refine ae rfl (cu Nn rfl (aI rfl)) ?_;refine aD rfl (gU call216 rfl (a5z z.vic h (by omega) d.lt)) ?_;rintro _ B_ ⟨rfl, o⟩;obtain rfl := o.symm;obtain ⟨m, hm⟩ : ∃ m, h.getD 0 0 = m := ⟨_, rfl⟩
 obtain ⟨y, P⟩ : ∃ y, decide (h ≠ []) = y := ⟨_, rfl⟩
 rw [hm, P, G];have x1 := d.took;refine aw ?_;refine aA rfl (fun V => ?_) fun V => ?_;refine au 1 ?_;obtain ⟨n, t, rfl⟩ : ∃ n t, h = n :: t := by
  rcases h with _ | ⟨x, l⟩;rw [← P] at V; exact absurd V (by decide);exact ⟨x, l, rfl⟩
 obtain rfl : n = m := hm;obtain rfl : y = true := by rw [← P]; exact Qah (List.cons_ne_nil n t)
 rw [List.head?_cons];dsimp only;have x5 := d.lt n (Qbj ..);refine aw ?_;refine aa (aE (aI (oA D.r.len))) ?_;refine aa (bD (cW (by omega))) ?_;refine aa (dU (256 + n)) ?_;refine bq [b] 14 fun e => ?_;refine aj 0 10 e ?_;refine cg 10 (ap call217 (MB z.c g.c.pc (256 + n) 0 D.cs D.pc (by omega) (by decide))) fun e => ?_;refine aj 11 2 e ?_;refine cp 13 (dq (by rw [qW D.r.len]; decide) (tz D.r.len)) fun e => ?_;refine aJ ?_;refine eD (B := e6 b (z, ⟨⟨g.c.rl, d9 g.c.cs 1, me g.c.cs g.c.pc (256 + n) 0⟩, S, U, s, mt u, w, A, g.halted, C, g.clock, g.es, f⟩) :: pt z.r (dw g.c.rl (d9 g.c.cs 1)) :: pt z.c (dS (me g.c.cs g.c.pc (256 + n) 0) z.i) :: g7 z.vic (s4 (n :: t)) :: eS z.tim E :: R) (iB rfl rfl) ?_;refine aw ?_;refine ah (ap sj (uY W0 _ b z ⟨⟨g.c.rl, d9 g.c.cs 1, me g.c.cs g.c.pc (256 + n) 0⟩, S, U, s, mt u, w, A, g.halted, C, g.clock, g.es, f⟩ hk)) ?_;refine ah (cq wQ (uZ W0 _ b z ⟨⟨g.c.rl, d9 g.c.cs 1, me g.c.cs g.c.pc (256 + n) 0⟩, S, U, s, mt u, w, A, g.halted, C, g.clock, g.es, f⟩ D.r.len 3 ((dR g.clock : Nat) : Int) (256 + n) 0 g.c.pc)) ?_;refine ac ?_;exact ⟨_, ⟨_, E, rfl, rfl, x1, j⟩, IO⟩;refine aw ?_;refine ac ?_;obtain rfl : h = [] := by
  rcases h with _ | ⟨x, l⟩;rfl;exact absurd (by rw [← P]; exact Qah (List.cons_ne_nil x l)) V
 obtain rfl : y = false := by rw [← P]; rfl
 rw [List.head?_nil];dsimp only;exact ⟨_, ⟨s4 [], E, rfl, rfl, (by rw [s4, Qad rfl]; exact d), j⟩, iB (g := ⟨g.c, S, U, s, u, w, A, g.halted, C, g.clock, g.es, f⟩) rfl rfl⟩
end
theorem a56 {id k i x} (h : (jU id k i x).1.k = 5) : (jU id k i x).2.pc = x.pc := by
 unfold jU at h ⊢;split at h <;> rename_i q;rw [Qad q];rw [Qaa q];unfold gm at h ⊢
 repeat' split at h
 all_goals try (cases h; done)
 simp only [*, QbM, QcP];unfold kA at h ⊢
 repeat' split at h
 all_goals try (cases h; done)
 simp only [*, QbM, QcP]
theorem CpOk.int {g} (h : CpOk g.c) : CpOk (fF g).2.c := by
 unfold fF;split
 cases q : jF g.ls with
 | none => exact h
 | some n =>
  have := (yD q).1;exact h.enter (by omega) (by decide)
 exact h
theorem a57 g : (fF g).2.clock = g.clock := by
 unfold fF;split;cases jF g.ls <;> rfl;rfl
abbrev MZ (b : Nat) (z : Rz) (g : Gu) (L : List Nat) (T : List (Int × Int)) (d : Nat) (fr : List aB) (pg : List Pl) (R : List HP) : List HP := BW b z g L T (iM z.v z.ps z.pm d fr pg R)
section
variable (W0 : World) (R : List HP) (b : Nat) (z : Rz) (g : Gu) (L : List Nat) (T : List (Int × Int)) (d : Nat) (fr : List aB) (pg : List Pl)
theorem a58 (h : Pgs pg) (K : cB fr) (hc : CpOk g.c) (M : z.i < 4) (hk : g.clock < 999999) (hl : LRel g.ls g.ln L) (O : g.ln < 1000000) (ht : TRel g.tm T) : sP W0 62 [pV b] (MZ b z g L T d fr pg R) (fun v B => ∃ L' T', v = iQ (eR z.i g fr pg).1.1 ∧ B = MZ b z (eR z.i g fr pg).1.2 L' T' d (eR z.i g fr pg).2 pg R ∧ LRel (eR z.i g fr pg).1.2.ls (eR z.i g fr pg).1.2.ln L' ∧ TRel (eR z.i g fr pg).1.2.tm T') := by
 obtain ⟨q, N⟩ : ∃ q, fF (iS (iZ g)) = q := ⟨_, rfl⟩
 have t : CpOk q.2.c := by rw [← N]; exact CpOk.int (g := iS (iZ g)) hc
 have x0 : q.2.clock = g.clock + 1 := by rw [← N, a57]
 have e := FG z.i q.2 fr pg;obtain ⟨F, D⟩ : ∃ F, pn q.2 fr pg q.2.c.pc 4 0 = F := ⟨_, rfl⟩
 obtain ⟨w, C⟩ : ∃ w, pj q.2 fr pg q.2.c.pc 4 0 = w := ⟨_, rfl⟩
 have hw : w < 4294967296 := by rw [← C]; exact uP K
 obtain ⟨vb, A⟩ : ∃ b, gH (fq w) = b := ⟨_, rfl⟩
 have I := DU w;obtain ⟨o, E⟩ : ∃ o, jU z.i (dR q.2.clock) (fq w) q.2.c = o := ⟨_, rfl⟩
 have l : EfOk o.1 ∧ CpOk o.2 := by rw [← E]; exact E1 t I.2.1 M
 have G : o.1.k = 5 → o.2.pc = q.2.c.pc := by rw [← E]; exact a56
 obtain ⟨s, hs⟩ : ∃ s, eR z.i g fr pg = s := ⟨_, rfl⟩
 have f := hs;rw [eR, N, jo, D, C, A, E] at f;rw [jo, D, C, A, E] at e;rw [hs];refine ju 6 func62 ntmps62 ?_;refine oE (b := b) fun a c => ?_;refine aX (ae rfl (aM rfl) (ae rfl (kI rfl) ?_));refine ae rfl (d5 rfl s9 rfl aR rfl (by first | exact Qac _ | rfl)) ?_;refine ae rfl (cu di rfl (aI rfl)) ?_;refine ae rfl (db rfl rfl (by rw [co (by omega)]; omega : IntKind.wrap .i64 ((g.clock : Int) + 1) = ((g.clock + 1 : Nat) : Int))) ?_;refine ae rfl (kI rfl) ?_;refine ae rfl (d5 rfl s9 rfl aR rfl (by first | exact Qac _ | rfl)) ?_;refine fh (m6 aR rfl rfl rfl (Qab rfl) (by exact rfl : (lZ z g (.slice a g.es.length c)).set 42 (.int .i64 ((g.clock + 1 : Nat) : Int)) = lZ z (iZ g) (.slice a g.es.length c))) ?_;rintro _ _ rfl;refine aL (aH (aO (aO (aX (ae rfl (aM rfl) (ae rfl (kI rfl) ?_))))));refine ae rfl (d5 rfl s9 rfl iT rfl (by first | exact Qac _ | rfl)) ?_;refine ae rfl (cu nk rfl (aI rfl)) ?_;refine aL (aH ?_);refine aA rfl (fun P => ?_) fun P => ?_;refine au 7 ?_;refine ac ?_;rw [Qad P] at f;subst f;exact ⟨_, ⟨L, T, rfl, rfl, hl, ht⟩, iB (g := iZ g) rfl rfl⟩;refine aw ?_;rw [Qaa P] at f;refine eD (B := BW b z (iZ g) L T (iM z.v z.ps z.pm d fr pg R)) (iB (g := iZ g) rfl rfl) ?_;refine aw ?_;refine aD rfl (ua call142 rfl (a55 W0 _ b z (iZ g) L T hc (by show g.clock + 1 < _; omega) hl O ht)) ?_;rintro _ J ⟨u, x, rfl, m, n, p⟩;obtain rfl := m.symm;rw [N] at n p ⊢;refine aw ?_;refine ai (fun Q => ?_) fun Q => ?_;refine ac ?_;rw [Qad Q] at f;subst f;exact ⟨_, ⟨u, x, rfl, rfl, n, p⟩, IO⟩;rw [Qaa Q] at f;refine oE (b := b) (z := z) (g := q.2) fun a c => ?_;refine aw ?_;refine aa (aE (aI (oA t.r.len))) ?_;refine bq [b] 16 fun j => ?_;refine aj 0 8 j ?_;refine aj 9 1 j ?_;refine cg 8 (ap H7 (BI z.c t.cs)) fun j => ?_;refine cj 10 (cM call143 (LP z.v z.ps z.pm d fr pg h K (ic q.2.c.cs) (gJ q.2.c.cs) (!dQ q.2.c.cs) q.2.c.pc t.pc 4 0)) ?_; clear j;rintro _ J ⟨rfl, m⟩;obtain rfl := m.symm;rw [show lT fr pg (ic q.2.c.cs) (gJ q.2.c.cs) (!dQ q.2.c.cs) q.2.c.pc 4 0 = F from D, show pi fr pg (ic q.2.c.cs) (gJ q.2.c.cs) (!dQ q.2.c.cs) q.2.c.pc 4 0 = w from C];refine ⟨aT, fun j => ?_⟩;refine aj 11 5 j ?_;refine aJ ?_;refine ai (fun S => ?_) fun S => ?_;rw [Qad S] at f e;refine eD (B := e6 b (z, dG q.2) :: pt z.r (dw q.2.c.rl q.2.c.pc) :: pt z.c (dS q.2.c.cs z.i) :: g7 z.vic u :: eS z.tim x :: iM z.v z.ps z.pm d fr pg R) (iB (g := dG q.2) rfl rfl) ?_;refine aw ?_;refine aa (bD (d8 F)) ?_;refine aa (pY rfl rfl (d8 _)) ?_;refine aa (db rfl rfl (d8 _)) ?_;refine ah (cM CJ (yW W0 _ b z (dG q.2) t (by show q.2.clock < _; omega) (qV 3 F) q.2.c.pc (dK _) t.pc)) ?_;refine ac ?_;subst f;exact ⟨_, ⟨u, x, rfl, rfl, by rw [e.1, e.2.1]; exact n, by rw [e.2.2]; exact p⟩, IO⟩;rw [Qaa S] at f e;refine ah (aC call146 (a5T w hw)) ?_;rw [A];refine bj fun b6 => ?_;refine ar aF ?_;refine aA rfl (fun H => ?_) fun H => ?_;refine au 1 ?_;rw [Qad (by simpa using H)] at f e;refine eD (B := e6 b (z, dG q.2) :: pt z.r (dw q.2.c.rl q.2.c.pc) :: pt z.c (dS q.2.c.cs z.i) :: g7 z.vic u :: eS z.tim x :: iM z.v z.ps z.pm d fr pg R) (iB (g := dG q.2) rfl rfl) ?_
 refine aw ?_;refine ah (cM CJ (yW W0 _ b z (dG q.2) t (by show q.2.clock < _; omega) 1 w (by decide) hw)) ?_;refine ac ?_;subst f;exact ⟨_, ⟨u, x, rfl, rfl, by rw [e.1, e.2.1]; exact n, by rw [e.2.2]; exact p⟩, IO⟩;obtain rfl : vb = true := by simpa using H
 rw [Qaa (by decide)] at f e;refine au 2 ?_;refine cF (fun y : Nat => True) (fun y => [(0, pV b), (3, wV q.2.c.pc), (8, pV y)]) (fun y => e6 b (z, jG (dG q.2) o.2) :: pt y (ag (cP o.1) 267) :: pt z.r (dw o.2.rl o.2.pc) :: pt z.c (dS o.2.cs z.i) :: g7 z.vic u :: eS z.tim x :: iM z.v z.ps z.pm d fr pg R) ?_ ?_;refine bq [b, b6] 18 fun j => ?_;refine aj 0 10 j ?_;refine fG (is := [10, 15]) (by kernel_rfl) rfl ⟨?_, ?_, trivial⟩;refine dy (ap sj (BS W0 _ b z q.2 _ (by omega))) ?_; clear j;rintro _ J ⟨rfl, m⟩;obtain rfl := m.symm;refine ⟨aT, fun j => ?_⟩;refine fG (is := [11, 15]) (by kernel_rfl) rfl ⟨?_, ?_, trivial⟩;refine dy (cq OL (G2 W0 _ (fq w) z.r z.c ((dR q.2.clock : Nat) : Int) q.2.c z.i t A M (by omega))) ?_; clear j;rintro _ J ⟨rfl, m⟩;obtain rfl := m.symm;rw [Qae, E];refine ⟨aT, fun j => ?_⟩;refine aj 12 3 j ?_;refine cj 15 (dx lc) ?_; clear j;rintro _ _ ⟨y, rfl, rfl⟩;refine ⟨aT, fun j => ?_⟩;refine cp 16 aF fun j => ?_;refine aj 17 1 j ?_;refine aJ ?_;refine bu y ?_ (he := ?_);trivial;exact iB (g := jG (dG q.2) o.2) rfl rfl;skip;refine dy (dx lc) ?_; clear j;rintro _ _ ⟨y, rfl, rfl⟩;refine ⟨aT, fun j => ?_⟩;refine cj 11 (cq OL (G2 W0 _ (fq w) z.r z.c ((dR q.2.clock : Nat) : Int) q.2.c z.i t A M (by omega))) ?_; clear j;rintro _ J ⟨rfl, m⟩;obtain rfl := m.symm;rw [Qae, E];refine ⟨aT, fun j => ?_⟩;refine aj 12 3 j ?_;refine cp 16 aF fun j => ?_;refine aj 17 1 j ?_;refine aJ ?_;refine bu y ?_ (he := ?_);trivial;exact iB (g := jG (dG q.2) o.2) rfl rfl;skip;refine dy (dx lc) ?_; clear j;rintro _ _ ⟨y, rfl, rfl⟩;refine ⟨aT, fun j => ?_⟩;refine cg 10 (ap sj (BS W0 _ b z q.2 _ (by omega))) fun j => ?_;refine cj 11 (cq OL (G2 W0 _ (fq w) z.r z.c ((dR q.2.clock : Nat) : Int) q.2.c z.i t A M (by omega))) ?_; clear j;rintro _ J ⟨rfl, m⟩;obtain rfl := m.symm;rw [Qae, E];refine ⟨aT, fun j => ?_⟩;refine aj 12 3 j ?_;refine cp 16 aF fun j => ?_;refine aj 17 1 j ?_;refine aJ ?_;refine bu y ?_ (he := ?_);trivial;exact iB (g := jG (dG q.2) o.2) rfl rfl;intro y _;refine aw ?_;refine ai (fun U => ?_) fun U => ?_;rw [ip, Qad (by omega)] at f e;refine ah (vA call148 rfl (a54 W0 _ b z (jG (dG q.2) o.2) d fr pg h K l.2 (by show q.2.clock < _; omega) o.1 l.1 (by omega))) ?_;refine ac ?_;subst f;exact ⟨_, ⟨u, x, rfl, rfl, by rw [e.1, e.2.1]; exact n, by rw [e.2.2]; exact p⟩, IO⟩;refine ai (fun V => ?_) fun V => ?_;rw [ip, Qaa (by omega), Qad (by omega)] at f e;refine ah (vA call148 rfl (a53 W0 _ b z (jG (dG q.2) o.2) d fr pg h K l.2 (by show q.2.clock < _; omega) o.1 l.1 (by omega))) ?_;refine ac ?_;subst f;exact ⟨_, ⟨u, x, rfl, rfl, by rw [e.1, e.2.1]; exact n, by rw [e.2.2]; exact p⟩, IO⟩;refine ai (fun W => ?_) fun W => ?_;rw [ip, Qaa (by omega), Qaa (by omega), Qad (by omega)] at f e;refine ah (cM CJ (yW W0 _ b z (jG (dG q.2) o.2) l.2 (by show q.2.clock < _; omega) o.1.cause o.1.tval (by have := l.1.cause; omega) l.1.tval)) ?_;refine ac ?_;subst f;exact ⟨_, ⟨u, x, rfl, rfl, by rw [e.1, e.2.1]; exact n, by rw [e.2.2]; exact p⟩, IO⟩;refine ai (fun X => ?_) fun X => ?_
 rw [ip, Qaa (by omega), Qaa (by omega), Qaa (by omega), Qaa (by omega), Qaa (by omega), Qad (by omega)] at f e;refine ac ?_;subst f;exact ⟨_, ⟨u, x, rfl, rfl, by rw [e.1, e.2.1]; exact n, by rw [e.2.2]; exact p⟩, IO⟩;refine ai (fun Y => ?_) fun Y => ?_;rw [ip, Qaa (by omega), Qaa (by omega), Qaa (by omega), Qaa (by omega), Qad (by omega)] at f e;have G := G (by omega);refine oE (b := b) (z := z) (g := jG (dG q.2) o.2) fun a c => ?_;refine aw ?_;refine ar (iX (by exact rfl : (lZ z (jG (dG q.2) o.2) (.slice a q.2.es.length c)).set 43 (.bool true) = lZ z (hQ q.2) (.slice a q.2.es.length c))) ?_;refine bq [b, y] 9 fun j => ?_;refine aj 0 8 j ?_;refine cp 8 (dq (by rw [qW l.2.r.len]; decide) (tz l.2.r.len)) fun j => ?_;refine aJ ?_;refine eD (B := e6 b (z, ng (hQ (jG (dG q.2) o.2)) o.1.pc) :: pt z.r (dw o.2.rl o.1.pc) :: pt z.c (dS o.2.cs z.i) :: pt y (ag (cP o.1) 267) :: g7 z.vic u :: eS z.tim x :: iM z.v z.ps z.pm d fr pg R) (iB (g := ng (hQ (jG (dG q.2) o.2)) o.1.pc) rfl rfl) ?_;refine aw ?_;refine ah (ap sj (uY W0 _ b z (ng (hQ (jG (dG q.2) o.2)) o.1.pc) (by show q.2.clock < _; omega))) ?_;refine ah (cq wQ (uZ W0 _ b z (ng (hQ (jG (dG q.2) o.2)) o.1.pc) l.2.r.len 4 ((dR q.2.clock : Nat) : Int) 0 0 q.2.c.pc)) ?_;refine ac ?_;rw [← G];subst f;exact ⟨_, ⟨u, x, rfl, rfl, by rw [e.1, e.2.1]; exact n, by rw [e.2.2]; exact p⟩, IO⟩;refine ai (fun Z => ?_) fun Z => ?_;rw [ip, Qaa (by omega), Qaa (by omega), Qaa (by omega), Qad (by omega)] at f e;refine oE (b := b) (z := z) (g := jG (dG q.2) o.2) fun a c => ?_;refine bq [b, y] 9 fun j => ?_;refine aj 0 8 j ?_;refine cp 8 (dq (by rw [qW l.2.r.len]; decide) (tz l.2.r.len)) fun j => ?_;refine aJ ?_;refine eD (B := e6 b (z, ng (jG (dG q.2) o.2) o.1.pc) :: pt z.r (dw o.2.rl o.1.pc) :: pt z.c (dS o.2.cs z.i) :: pt y (ag (cP o.1) 267) :: g7 z.vic u :: eS z.tim x :: iM z.v z.ps z.pm d fr pg R) (iB (g := ng (jG (dG q.2) o.2) o.1.pc) rfl rfl) ?_;refine aw ?_;refine ac ?_;subst f;exact ⟨_, ⟨u, x, rfl, rfl, by rw [e.1, e.2.1]; exact n, by rw [e.2.2]; exact p⟩, IO⟩;rw [ip, Qaa (by omega), Qaa (by omega), Qaa (by omega), Qaa (by omega), Qaa (by omega), Qaa (by omega)] at f e;refine ac ?_;subst f;exact ⟨_, ⟨u, x, rfl, rfl, by rw [e.1, e.2.1]; exact n, by rw [e.2.2]; exact p⟩, IO⟩
end
theorem N0 pb qs po fr (f w : Nat) (hf : f < po.length) (hff : f < fr.length) (ha : d6 po f = ((w : Int), true)) : sQ W0 126 [pV pb, iQ f] (dA pb (qs, po) :: cN qs fr :: R) (iQ 0) (dA pb (qs, po.set f (w, false)) :: cN qs (fr.set f cm) :: R) := by
 have e : dN fr.length f = true := by simp only [dN, Qaj]; omega
 have a : (po.set f ((w : Int), false)).flatMap jm = po.flatMap jm := by
  have := JP (po := po) (i := f) (t := false) hf
  rwa [ha] at this
 refine am func126 ntmps126 ?_;refine xW (pb := pb) (by omega) fun g c p q r h j k l m n o => ?_;refine aw ?_;refine ah (ap sf (qu qs fr f)) ?_;refine ai (fun b => ?_) fun b => ?_;exact absurd b (by simp [e]);refine aa (bJ hf) ?_;refine aa (aE (aI (xY hf))) ?_;refine ai (fun d => ?_) fun d => ?_;exact absurd (by rw [ha]) d;refine aa (bJ hf) ?_;refine ar (dq (JS hf) (Ew (v := (w : Int)) hf)) ?_;refine ah (ap call101 (JQ qs fr f hff)) ?_;refine ac ?_;exact ⟨_, ⟨rfl, rfl⟩, mY (by simp) (by simp) a.symm rfl j k l m n (by rw [Qaf, w3, Qap, ← w3, ← Qaf]; exact o)⟩
theorem a59 pb qs po w (z : w < 16) (A : 0 < po.length) (r : po.length ≤ 32) (s : bN po w = []) : sQ W0 121 [pV pb, iQ w] (dA pb (qs, po) :: R) (.tuple #[iQ 0, iQ 2]) (dA pb (qs, po) :: R) := by
 have d : ∀ j, j < po.length → d6 po j ≠ ((w : Int), false) := fun j t q => by
  have p := kB.2 ⟨t, q⟩;rw [s] at p;cases p
 refine am func121 ntmps121 ?_;refine cy rfl rfl rfl (fun e => ?_) fun e => ?_;omega;refine aw ?_;refine aA rfl (fun u => ?_) fun u => ?_;omega;refine aw ?_;refine d4 (fun i : Nat => i ≤ po.length) (fun i => [(0, pV pb), (1, iQ w), (6, iQ i)]) (fun _ => dA pb (qs, po) :: R) (fun i => po.length - i) 0 ?_ ?_;exact QaF _;intro i B;refine xW (pb := pb) (by omega) fun g c C D E v h k l m n o => ?_;refine aw ?_;refine bO (fun f => ?_) fun f => ?_;refine ai (fun x => ?_) fun x => ?_;have a : i < po.length := by omega
 refine aa (bJ a) ?_;refine aa (aE (aI (xX a))) ?_;refine bO (fun b => ?_) fun b => ?_;refine aa (bJ a) ?_;refine aa (aE (aI (xY a))) ?_;refine ai (fun y => ?_) fun y => ?_;exact absurd (by rw [Prod.ext_iff]; constructor <;> simp_all) (d i a);refine aa bY ?_;refine bR (i + 1) ?_ (he := ?_);omega;exact mY rfl rfl rfl rfl h k l m n o;refine aa bY ?_;refine bR (i + 1) ?_ (he := ?_);omega;exact mY rfl rfl rfl rfl h k l m n o;refine az ?_;exact ⟨_, ⟨rfl, rfl⟩, mY rfl rfl rfl rfl h k l m n o⟩;refine az ?_;exact ⟨_, ⟨rfl, rfl⟩, mY rfl rfl rfl rfl h k l m n o⟩
theorem a6a pb ps pm i x (h : GMem i x) (hi : i < 16) : sP W0 127 [pV pb, pV pm] (dA pb (ps, x.po) :: cN ps x.fr :: pt pm (dJ x.pg) :: R) (fun v B => ∃ k : Nat, v = iQ k ∧ B = dA pb (ps, (cr i 8 x).po) :: cN ps (cr i 8 x).fr :: pt pm (dJ (cr i 8 x).pg) :: R) := by
 refine am func127 ntmps127 ?_;refine d4 (fun X : Nat × Nat => X.1 ≤ 8 ∧ X.2 ≤ X.1) (fun X => [(0, pV pb), (1, pV pm), (5, iQ X.2), (6, iQ X.1)]) (fun X => dA pb (ps, (cr i X.1 x).po) :: cN ps (cr i X.1 x).fr :: pt pm (dJ (cr i X.1 x).pg) :: R) (fun X => 8 - X.1) (0, 0) ?_ ?_;exact ⟨QaF _, Qam _⟩;intro ⟨n, m⟩ ⟨hn, hm⟩;dsimp only at hn hm ⊢;have hg := h.strip hi n hn;have hs : cr i (n + 1) x = k0 i n (cr i n x) := rfl;obtain ⟨y, hy⟩ : ∃ y, cr i n x = y := ⟨_, rfl⟩
 rw [hy] at hg hs ⊢;refine aw ?_;refine aA rfl (fun c3 => ?_) fun c3 => ?_;refine au 2 ?_;refine cF (fun X : Nat => n < 8 ∧ X ≤ n + 1) (fun X => [(0, pV pb), (1, pV pm), (5, iQ X), (6, iQ n)]) (fun X => dA pb (ps, (k0 i n y).po) :: cN ps (k0 i n y).fr :: pt pm (dJ (k0 i n y).pg) :: R) ?_ ?_;refine au 5 ?_;refine ah (ap wN (uj pm y.pg hg.pg n)) ?_;refine bj fun b7 => ?_;refine ar aF ?_;refine ai (fun c6 => ?_) fun c6 => ?_;have hth : aK y.pg n = true := by simpa using c6
 obtain ⟨f, hf, hff, hfp⟩ := hg.at_ hth;have ho := hg.own n (by omega) hth;rw [hf, Qae] at ho;have e1 : k0 i n y = ⟨y.fr.set f cm, eZ y.pg n, y.po.set f ((i : Int), false)⟩ := by
  rw [k0, Qad hth, nh, hf, Qae]
 refine dV 6 (ap call125 (Lb pm y.pg hg.pg n)) ?_;refine ae rfl (aE (aI (v := iQ f) (by rw [← hf]; rfl))) ?_;refine ah (cq call126 (N0 pb ps y.po y.fr f i hfp hff ho)) ?_;refine aa (dU (m + 1)) ?_;refine bu (m + 1) ?_ (he := ?_);omega;rw [e1];exact IO;refine bu m ?_ (he := ?_);omega;have hth : aK y.pg n = false := by simpa using c6
 have e1 : k0 i n y = y := by rw [k0, Qaa (by rw [hth]; decide)]
 rw [e1];exact IO;intro X ⟨hn8, hX⟩;refine aw ?_;refine aa (dU (n + 1)) ?_;refine bR (n + 1, X) ?_ (he := ?_);omega;show Ent _ (dA pb (ps, (cr i (n + 1) x).po) :: cN ps (cr i (n + 1) x).fr :: pt pm (dJ (cr i (n + 1) x).pg) :: R);rw [hs];exact IO;refine aw ?_;refine ac ?_;obtain rfl : n = 8 := by omega
 rw [hy];exact ⟨_, ⟨m, rfl, rfl⟩, IO⟩
theorem N1 p : sQ W0 119 [iQ p] R (.bool (decide (0 ≤ p ∧ p < 8))) R := by
 refine am func119 ntmps119 ?_;refine bO (fun a => ?_) fun a => ?_;rw [show decide (0 ≤ p ∧ p < 8) = decide (p < 8) by apply Qaz.2; omega];exact ac ao;rw [show decide (0 ≤ p ∧ p < 8) = false by apply Qal; omega];exact ac ao
theorem wE {rl pc n} (h : rl.length = 16) (a : n < 16) : (rl.map wV ++ [wV pc])[n]? = some (wV (bL rl n)) := by
 have := Mz (pc := pc) h a
 rwa [QaB] at this
theorem ir {W0 A R b z g} [e : Tk e6 b A (z, g) R] {k v} (c : ∀ d, (lZ z g d)[k]? = some v) : bC (aQ W0 A) b k [v] := fun j u a => by
 match j, a with
 | 0, a => cases a; exact nQ c
section
variable (W0 : World) (R : List HP) (b : Nat) (z : Rz) (g : Gu) (d : Nat)
theorem a6b (f : g.clock < 1000000000) (e : g.c.rl.length = 16) : sQ W0 49 [pV b] (e6 b (z, g) :: pt z.r (dw g.c.rl g.c.pc) :: R) (.tuple #[]) (e6 b (z, oy (hQ g) 4 0 0 g.c.pc) :: pt z.r (dw g.c.rl g.c.pc) :: R) := by
 refine G4 fun a c => ?_;refine am func49 ntmps49 ?_;refine ar (iX (by exact rfl : (lZ z g (.slice a g.es.length c)).set 43 (.bool true) = lZ z (hQ g) (.slice a g.es.length c))) ?_;refine eD (B := e6 b (z, hQ g) :: pt z.r (dw g.c.rl g.c.pc) :: R) (iB (g := hQ g) rfl rfl) ?_;refine fj [(b, 11, [pV z.r]), (z.r, 0, g.c.rl.map wV ++ [wV g.c.pc])] 11 mixed rfl (bU (ir fun _ => rfl) (bQ bH)) (fun d => ?_);refine aj 0 2 d ?_;refine aj 3 3 d ?_;refine ax 6 d (aE (jt (k := 0) rfl)) ?_;refine aj 7 2 d ?_;refine ax 9 d (aE (dm (k := 1) rfl (oA e))) ?_;refine gy 2 rfl rfl (ap sj (uY W0 _ b z (hQ g) f)) (bU (ir fun _ => rfl) (bQ bH)) fun d => ?_;refine gy 10 rfl rfl (cq wQ (uZ W0 _ b z (hQ g) e 4 ((dR g.clock : Nat) : Int) 0 0 g.c.pc)) (bU (ir fun _ => rfl) (bQ bH)) fun d => ?_;refine aJ ?_;refine bX (.inr rfl) .nil ?_;exact ao
theorem a6c (d : g.c.rl.length = 16) : sQ W0 52 [pV b] (e6 b (z, g) :: pt z.r (dw g.c.rl g.c.pc) :: R) (.tuple #[wV (bL g.c.rl 1), .agg #[wV (bL g.c.rl 2), wV (bL g.c.rl 3), wV (bL g.c.rl 4), wV (bL g.c.rl 5)]]) (e6 b (z, g) :: pt z.r (dw g.c.rl g.c.pc) :: R) := by
 refine lL func52 ntmps52 rfl rfl ?_;refine aO (aX (ae rfl (bA rfl) ?_));refine ez (dx Ch) fun e => ?_;refine aL (aH (aO ?_));refine fj [(b, 11, [pV z.r]), (z.r, 0, g.c.rl.map wV ++ [wV g.c.pc])] 43 mixed rfl (bU (ir fun _ => rfl) (bQ bH)) (fun a => ?_);refine aj 0 3 a ?_;refine ax 3 a (aE (jt (k := 0) rfl)) ?_;refine aj 4 2 a ?_;refine ax 6 a (ew (by decide)) ?_;refine ax 7 a (aE (dm (k := 1) rfl (wE d (n := 1) (by decide)))) ?_;refine aj 8 3 a ?_;refine ax 11 a (aE (jt (k := 0) rfl)) ?_;refine aj 12 2 a ?_;refine ax 14 a (ew (by decide)) ?_;refine ax 15 a (aE (dm (k := 1) rfl (wE d (n := 2) (by decide)))) ?_;refine aj 16 3 a ?_;refine ax 19 a (aE (jt (k := 0) rfl)) ?_;refine aj 20 2 a ?_;refine ax 22 a (ew (by decide)) ?_;refine ax 23 a (aE (dm (k := 1) rfl (wE d (n := 3) (by decide)))) ?_;refine aj 24 3 a ?_;refine ax 27 a (aE (jt (k := 0) rfl)) ?_;refine aj 28 2 a ?_;refine ax 30 a (ew (by decide)) ?_;refine ax 31 a (aE (dm (k := 1) rfl (wE d (n := 4) (by decide)))) ?_;refine aj 32 3 a ?_;refine ax 35 a (aE (jt (k := 0) rfl)) ?_;refine aj 36 2 a ?_;refine ax 38 a (ew (by decide)) ?_;refine ax 39 a (aE (dm (k := 1) rfl (wE d (n := 5) (by decide)))) ?_;refine dp 40 rfl rfl rfl a (xx CK aW Ch rfl rfl rfl rfl) ?_;refine aj 41 1 a ?_;refine m8 42 rfl rfl aF (bU (ir fun _ => rfl) (bQ bH)) fun a => ?_;refine aJ ?_;exact aV (.cons (aS rfl) (.cons (bi Np Gk rfl rfl) .nil)) ao
theorem a6d (i : g.clock < 1000000000) (d : g.c.rl.length = 16) n w e (h : u32 n = e) : sQ W0 53 [pV b, iQ n, wV w] (e6 b (z, g) :: pt z.r (dw g.c.rl g.c.pc) :: R) (.tuple #[]) (e6 b (z, BB g e w) :: pt z.r (dw (qL g.c.rl e w) (cQ g.c.pc)) :: R) := by
 have f : (g.c.rl.set 1 e).length = 16 := by simp [d]
 have a : (qL g.c.rl e w).length = 16 := by simp [qL, d]
 refine am func53 ntmps53 ?_;refine aa (aE (nQ fun _ => rfl)) ?_;refine aa (ew (by decide)) ?_;refine aa (aE (aI (wE d (n := 1) (by decide)))) ?_;refine aa (aE (nQ fun _ => rfl)) ?_;refine aa (aE (aI (oA d))) ?_;refine aa (aE (nQ fun _ => rfl)) ?_;refine aa (bD (by rw [d8, h] : IntKind.wrap .u32 n = ((e : Nat) : Int))) ?_;refine aa (ew (by decide)) ?_;refine ar (dq (by rw [qW d]; decide) (FR d (n := 1) (by omega))) ?_;refine aa (aE (nQ fun _ => rfl)) ?_;refine aa (ew (by decide)) ?_;refine ar (dq (by rw [qW f]; decide) (FR f (n := 2) (by omega))) ?_;refine aa (aE (nQ fun _ => rfl)) ?_;refine aa (db rfl rfl (show IntKind.wrap .u32 ((g.c.pc : Int) + 4) = ((cQ g.c.pc : Nat) : Int) from d8 _)) ?_;refine ar (dq (by rw [qW a]; decide) (tz a)) ?_;refine eD (B := e6 b (z, yN g e w) :: pt z.r (dw (qL g.c.rl e w) (cQ g.c.pc)) :: R) (show Ent _ (e6 b (z, g) :: pt z.r (dw (qL g.c.rl e w) (cQ g.c.pc)) :: R) from inferInstance) ?_;refine aw ?_;refine ah (ap sj (uY W0 _ b z (yN g e w) i)) ?_;refine aa (bD (by rw [d8, h] : IntKind.wrap .u32 n = ((e : Nat) : Int))) ?_;refine ah (cq wQ (uZ W0 _ b z (yN g e w) a 2 ((dR g.clock : Nat) : Int) (bL g.c.rl 1) e g.c.pc)) ?_;refine bX (.inr rfl) .nil ?_;exact ao
theorem a6e (H : z.i < 4) p x (h : GMem z.i x) (G : 0 < x.po.length) : bE Tryz.prog W0 45 [pV b, iQ p] (e6 b (z, g) :: pt z.v (gj z.ps z.pm d) :: pt z.pm (dJ x.pg) :: dA z.pl (z.ps, x.po) :: R)
    (fun v B => v = iQ (wx z.i p x) ∧ B = e6 b (z, g) :: pt z.v (gj z.ps z.pm d) :: pt z.pm (dJ (lz z.i p x).pg) :: dA z.pl (z.ps, (lz z.i p x).po) :: R) := by
 obtain ⟨E, a⟩ : ∃ b, aK x.pg p = b := ⟨_, rfl⟩
 obtain ⟨u, c⟩ : ∃ b, rY p = b := ⟨_, rfl⟩
 have o : decide (0 ≤ p ∧ p < 8) = u := c;rw [wx, lz, c, a];refine am func45 ntmps45 ?_;refine ah (aC call119 (N1 p)) ?_;rw [o];refine ai (fun w => ?_) fun w => ?_;refine ac ?_;rw [show u = false by simpa using w, Qaa (show ¬((false && !E) = true) from QbH)];exact ao;have F : u = true := by simpa using w
 rw [F];obtain ⟨n, rfl, I⟩ := rZ (c.trans F);refine aa (aE (nQ fun _ => rfl)) ?_;refine ah (ap wN (uj z.pm x.pg h.pg n)) ?_;rw [a];refine bj fun J => ?_;refine ar aF ?_;refine ai (fun y => ?_) fun y => ?_;refine ac ?_;rw [y, Qaa (show ¬((true && !true) = true) by decide)];exact ao;have r : E = false := by simpa using y
 rw [r];rw [r] at a;obtain ⟨t, j⟩ : ∃ l, bN x.po z.i = l := ⟨_, rfl⟩
 rw [j];obtain ⟨e, f, A⟩ : ∃ e f, (∀ R, bE Tryz.prog W0 121 [pV z.pl, iQ z.i] (dA z.pl (z.ps, x.po) :: R) (fun v B => v = .tuple #[iQ ((f : Nat) : Int), iQ e] ∧ B = dA z.pl (z.ps, if e = 0 then x.po.set f ((z.i : Int), true) else x.po) :: R)) ∧ (e = 0 ∧ (∃ l, t = f :: l) ∨ e = 2 ∧ t = []) := by
  cases t with
  | nil => exact ⟨2, 0, fun R => by rw [Qaa (by decide)]; exact a59 z.pl z.ps x.po z.i (by omega) G h.po.len j, .inr ⟨rfl, rfl⟩⟩
  | cons f l => exact ⟨0, f, fun R => by rw [Qad rfl]; exact JV z.pl z.ps x.po z.i f l (by omega) h.po.len j, .inl ⟨rfl, l, rfl⟩⟩
 obtain ⟨C, s⟩ := A;refine fj [(b, 10, [pV z.pl]), (b, 8, [iQ z.i])] 14 mixed rfl (bU (ir fun _ => rfl) (bU (ir fun _ => rfl) bH)) (fun m => ?_);refine aj 0 3 m ?_;refine ax 3 m (aE (jt (k := 0) rfl)) ?_;refine aj 4 3 m ?_;refine ax 7 m (aE (jt (k := 1) rfl)) ?_;refine gy 8 rfl rfl (ap call121 (C _)) (bU (ir fun _ => rfl) (bU (ir fun _ => rfl) bH)) fun m => ?_;refine aj 9 5 m ?_;refine aJ ?_;refine aA rfl (fun D => ?_) fun D => ?_;obtain ⟨rfl, l, rfl⟩ : e = 0 ∧ ∃ l, t = f :: l := by
  rcases s with q | ⟨rfl, _⟩;exact q;exact absurd D (by decide)
 rw [Qad (show (0 : Int) = 0 from rfl)];refine aw ?_;refine aa (aE (nQ fun _ => rfl)) ?_;refine ah (ap GO (Af z.pm x.pg h.pg n ((f : Int), 3))) ?_;refine ac ?_;rw [Qad (show (true && !false) = true from rfl)];exact ao;refine aw ?_;refine ac ?_;rcases s with ⟨q, _⟩ | ⟨rfl, rfl⟩;exact absurd q D;rw [Qaa (show ¬((2 : Int) = 0) by decide), Qad (show (true && !false) = true from rfl)];exact ao
theorem a6f (hi : z.i < 4) p x (h : GMem z.i x) : bE Tryz.prog W0 47 [pV b, iQ p] (e6 b (z, g) :: pt z.v (gj z.ps z.pm d) :: pt z.pm (dJ x.pg) :: dA z.pl (z.ps, x.po) :: cN z.ps x.fr :: R)
    (fun v B => v = iQ (BD p x) ∧ B = e6 b (z, g) :: pt z.v (gj z.ps z.pm d) :: pt z.pm (dJ (lB z.i p x).pg) :: dA z.pl (z.ps, (lB z.i p x).po) :: cN z.ps (lB z.i p x).fr :: R) := by
 obtain ⟨th, hth⟩ : ∃ b, aK x.pg p = b := ⟨_, rfl⟩
 obtain ⟨ow, how⟩ : ∃ b, rY p = b := ⟨_, rfl⟩
 have how2 : decide (0 ≤ p ∧ p < 8) = ow := how;rw [BD, lB, how, hth];refine am func47 ntmps47 ?_;refine ah (aC call119 (N1 p)) ?_;rw [how2];refine ai (fun c1 => ?_) fun c1 => ?_;refine ac ?_;rw [show ow = false by simpa using c1, Qaa (show ¬((false && th) = true) from QbH)];exact ao;have ho : ow = true := by simpa using c1
 rw [ho];obtain ⟨n, rfl, hn⟩ := rZ (how.trans ho);refine aa (aE (nQ fun _ => rfl)) ?_;refine ah (ap wN (uj z.pm x.pg h.pg n)) ?_;rw [hth];refine bj fun b5 => ?_;refine ar aF ?_;refine ai (fun c4 => ?_) fun c4 => ?_;refine ac ?_;rw [show th = false by simpa using c4, Qaa (show ¬((true && false) = true) by decide)];exact ao;have ht1 : th = true := by simpa using c4
 rw [ht1];rw [ht1] at hth;obtain ⟨f, hf, hff, hfp⟩ := h.at_ hth;have hown := h.own n hn hth;rw [hf, Qae] at hown;have hgv : nh z.i n x = ⟨x.fr.set f cm, eZ x.pg n, x.po.set f ((z.i : Int), false)⟩ := by rw [nh, hf, Qae]
 rw [Qae, hgv, Qad (show (true && true) = true from rfl)];refine aa (aE (nQ fun _ => rfl)) ?_;refine ah (ap call125 (Lb z.pm x.pg h.pg n)) ?_;refine fj [(b, 10, [pV z.pl]), (b5, 0, fV (bF x.pg n))] 8 mixed rfl (bU (ir fun _ => rfl) (bQ bH)) (fun hS => ?_);refine aj 0 3 hS ?_;refine ax 3 hS (aE (jt (k := 0) rfl)) ?_;refine aj 4 1 hS ?_;refine ax 5 hS (aE (dm (k := 1) (v := iQ f) rfl (by rw [← hf]; rfl))) ?_;refine gy 6 rfl rfl (cq call126 (N0 z.pl z.ps x.po x.fr f z.i hfp hff hown)) (bU (ir fun _ => rfl) (bQ bH)) fun hS => ?_;refine aj 7 1 hS ?_;refine aJ ?_;exact ac ao
end
theorem a6g {b R} : Ent (pt b (ag ([eg] ++ qX ++ qY) 229) :: R) (g7 b [] :: R) :=
  (Ent.cons (eX (E := 3) (sz := 1) (A := R) (B := R))).trans (fH (R := R) (C := [_, _]) ⟨none, 0, rfl⟩)
theorem a6h {b R} : Ent (pt b (ag [eg] 253) :: R) (eS b [] :: R) :=
  (Ent.cons (eX (E := 255) (sz := 2) (A := R) (B := R))).trans (fH (R := R) (C := [_, _]) ⟨none, 0, rfl⟩)
@[reducible] def jp (z : Rz) (vr vc vv vt tv : Value) (ck : Nat) (h : Bool) : List Value := dC z.k ++ [.int .i64 z.i, z.wv, pV z.pl, vr, vc, pV z.v] ++ G3 ++ [vv, vt, pV z.bx, tv, .int .i64 ck, .bool h, wV 0, wV 0, wV 0, wV 0]
theorem G6 : ∀ (a l : List Value) (i : Nat), (∀ j v, a[j]? = some v → l[i + j]? = some v) → d7 l i a = l
 | [], l, i, _ => rfl
 | v :: a, l, i, h => by
  have b : l[i]? = some v := h 0 v rfl;have e : l.set i v = l := Ax b;rw [d7, e];exact G6 a l (i + 1) fun j u c => by
   have := h (j + 1) u c
   rwa [show i + (j + 1) = i + 1 + j by omega] at this
theorem a6i {A Q B i} (h : A.length = i) : d7 (A ++ Q ++ B) i Q = A ++ Q ++ B := G6 _ _ _ fun j v a => by
 have b : j < Q.length := by
  rcases QaC j Q.length with q | q;exact q;rw [Qbl q] at a; cases a
 rw [QaJ, Qbn (by omega), QaA (by omega), show i + j - A.length = j by omega];exact a
theorem a6j {z vr vc vv vt tv ck h} : d7 (jp z vr vc vv vt tv ck h) 14 G3 = jp z vr vc vv vt tv ck h := a6i rfl
theorem a6k {z vr vc vv vt tv ck h} : d7 (jp z vr vc vv vt tv ck h) 44 [wV 0, wV 0, wV 0, wV 0] = jp z vr vc vv vt tv ck h := G6 _ _ _ fun j v a => by
 match j, a with
 | 0, a => exact a
 | 1, a => exact a
 | 2, a => exact a
 | 3, a => exact a
section
variable (W0 : World) (R : List HP) (b : Nat) (z : Rz) (d : Nat)
theorem N2 (h : CfK W0 z.k) (O : rt z.k = true) (w : z.i < z.k.gl.length) vr vc vv vt tv ck hd x (P : ImOk x) (Q : 0 < x.fr.length) (p : pK x.pg 0 8) (n : Nat) (G : (cT z.k z.i).2.1 = n) (s : n ≤ (bN x.po z.i).length) a cap ws (S : z.wv = .slice a ws.length cap) (T : ∀ A, cG (aQ W0 A) a 1 iP ws) (U : ∀ y ∈ ws, y < 4294967296) (C : ws.length < 9223372036854775808) (t : ws.length ≤ cap) : sP W0 109 [pV b] (pt b (ag (jp z vr vc vv vt tv ck hd) 129) :: pt z.v (gj z.ps z.pm d) :: dA z.pl (z.ps, x.po) :: cN z.ps x.fr :: pt z.pm (dJ x.pg) :: R) (fun v B => ∃ H I J K, v = iQ 0 ∧ B = pt b (ag (jp z (pV H) (pV I) (pV J) (pV K) tv ck false) 129) :: pt H (dw (List.replicate 16 0) 0) :: pt I (dS lX z.i) :: g7 J [] :: eS K [] :: pt z.v (gj z.ps z.pm d) :: dA z.pl (z.ps, (ci z.i (aZ ws n) n x).po) :: cN z.ps (ci z.i (aZ ws n) n x).fr :: pt z.pm (dJ (ci z.i (aZ ws n) n x).pg) :: R) := by
 have L := jC O;have V := L.g4;have D := L.gs z.i w;rw [G] at D;obtain ⟨W, o, E, q⟩ := (h.ok.g []).at_ w;obtain ⟨u, M⟩ : ∃ u, z.k.gl[z.i] = u := ⟨_, rfl⟩
 have X : cT z.k z.i = u := by simp [cT, List.getD, w, M]
 rw [M] at q;have F : u.2.1 = (n : Int) := by rw [← X]; exact G
 obtain ⟨Y, N⟩ : ∃ Y, ci z.i (aZ ws n) n x = Y := ⟨_, rfl⟩
 rw [N];refine am func109 ntmps109 ?_;refine fj [(b, 0, jp z vr vc vv vt tv ck hd), (z.v, 0, _), (W, o + z.i * 3, ig u)] 40 mixed rfl (bQ (bQ (bU q.weak bH))) (fun l => ?_);refine aj 0 31 l ?_;refine ax 31 l (eB np l9 rfl E rfl rfl w (by first | exact Qac _ | rfl)) ?_;refine aj 32 1 l ?_;refine ax 33 l (aE (kJ (k := 2) (j := 1) rfl (by rw [← F]; rfl : (ig u)[1]? = some (iQ (n : Int))))) ?_;refine aj 34 3 l ?_;refine ax 37 l (aE (dm (k := 0) (v := .slice a ws.length cap) rfl (by rw [← S]; rfl))) ?_;refine cj 38 (cM call187 (ZU z.pl z.ps z.pm z.i n x P Q a cap ws (by omega) (by omega) (by omega) p s (fun A _ => T A) U C t)) ?_; clear l;rintro _ Z ⟨rfl, r⟩;obtain rfl := r.symm;rw [N];refine ⟨(bQ (bQ (bU q.weak bH))), fun l => ?_⟩;refine aj 39 1 l ?_;refine i6 ?_;refine au 8 ?_;refine jf ?_;refine ez (kg rfl) fun c => ?_;refine aw ?_;refine ar (iX (by exact rfl : (jp z vr vc vv vt tv ck hd).set 11 (pV c) = jp z (pV c) vc vv vt tv ck hd)) ?_;refine aD rfl (aC call188 (a09 z.i (by omega))) ?_;rintro _ Z ⟨e, rfl, r⟩;obtain rfl := r.symm;refine aw ?_;refine ar (iX (by exact rfl : (jp z (pV c) vc vv vt tv ck hd).set 12 (pV e) = jp z (pV c) (pV e) vv vt tv ck hd)) ?_;refine aa (xk underlying122 sizeOf121 zeroValue122 rfl) ?_;refine ar (iH (Qab rfl) (a6j)) ?_;refine bz fun f => ?_;refine ar (iX (by exact rfl : (jp z (pV c) (pV e) vv vt tv ck hd).set 38 (pV f) = jp z (pV c) (pV e) (pV f) vt tv ck hd)) ?_;refine bz fun m => ?_;refine ar (iX (by exact rfl : (jp z (pV c) (pV e) (pV f) vt tv ck hd).set 39 (pV m) = jp z (pV c) (pV e) (pV f) (pV m) tv ck hd)) ?_;refine ar (iX (by exact rfl : (jp z (pV c) (pV e) (pV f) (pV m) tv ck hd).set 43 (.bool false) = jp z (pV c) (pV e) (pV f) (pV m) tv ck false)) ?_;refine aa (xk CK aW Ch rfl) ?_;refine ar (iH (Qab rfl) (a6k)) ?_;refine gi (b := c) (o' := dw (List.replicate 16 0) 0) rfl ?_;refine gi (b := e) (o' := dS lX z.i) rfl ?_;refine gi (b := f) (o' := ag ([eg] ++ qX ++ qY) 229) rfl ?_;refine gi (b := m) (o' := ag [eg] 253) rfl ?_;refine aw ?_;refine ac ?_;refine ⟨_, ⟨c, e, f, m, rfl, rfl⟩, ?_⟩;exact Ent.trans (B := pt m (ag [eg] 253) :: pt f (ag ([eg] ++ qX ++ qY) 229) :: pt b (ag (jp z (pV c) (pV e) (pV f) (pV m) tv ck false) 129) :: pt c (dw (List.replicate 16 0) 0) :: pt e (dS lX z.i) :: pt z.v (gj z.ps z.pm d) :: dA z.pl (z.ps, Y.po) :: cN z.ps Y.fr :: pt z.pm (dJ Y.pg) :: R) inferInstance (a6h.trans ((Ent.cons a6g).trans inferInstance))
attribute [local irreducible] cr ci
theorem a6l g (h : CfK W0 z.k) (G : rt z.k = true) (K : z.i < z.k.gl.length) (L : g.clock < 1000000000) x (u : GMem z.i x) (V : 0 < x.po.length) (n : Nat) (M : (cT z.k z.i).2.1 = n) (H : n ≤ lY z.i x.po) a cap ws (N : z.wv = .slice a ws.length cap) (O : ∀ A, cG (aQ W0 A) a 1 iP ws) (P : ∀ y ∈ ws, y < 4294967296) (C : ws.length < 9223372036854775808) (w : ws.length ≤ cap) : sP W0 48 [pV b] (e6 b (z, g) :: pt z.v (gj z.ps z.pm d) :: dA z.pl (z.ps, x.po) :: cN z.ps x.fr :: pt z.pm (dJ x.pg) :: R) (fun v B => ∃ f j l m, v = iQ 0 ∧ B = e6 b ({ z with r := f, c := j, vic := l, tim := m }, fe g) :: pt f (dw (List.replicate 16 0) 0) :: pt j (dS lX z.i) :: g7 l [] :: eS m [] :: pt z.v (gj z.ps z.pm d) :: dA z.pl (z.ps, (gC z.i n ws x).po) :: cN z.ps (gC z.i n ws x).fr :: pt z.pm (dJ (gC z.i n ws x).pg) :: R) := by
 have Q := jC G;have S := Q.g4;have e := u.strip (show z.i < 16 by omega) 8 (Qam _);have o := yP u (show z.i < 16 by omega);have I := BE u (show z.i < 16 by omega);have D : ImOk ⟨(cr z.i 8 x).fr, (cr z.i 8 x).po, (cr z.i 8 x).pg⟩ := ⟨e.fr, e.po, e.pg, e.len⟩
 have T := (yQ u (show z.i < 16 by omega) 8 (Qam _)).1;obtain ⟨Y, J⟩ : ∃ y, ci z.i (aZ ws n) n ⟨(cr z.i 8 x).fr, (cr z.i 8 x).po, (cr z.i 8 x).pg⟩ = y := ⟨_, rfl⟩
 have E : gC z.i n ws x = rX Y := by rw [gC, J]
 rw [E];refine am func48 ntmps48 ?_;refine fj [(b, 10, [pV z.pl]), (b, 13, [pV z.v]), (z.v, 0, _)] 12 mixed rfl (bU (ir fun _ => rfl) (bU (ir fun _ => rfl) (bQ bH))) (fun p => ?_);refine aj 0 3 p ?_;refine ax 3 p (aE (jt (k := 0) rfl)) ?_;refine aj 4 3 p ?_;refine ax 7 p (aE (jt (k := 1) rfl)) ?_;refine aj 8 3 p ?_;refine cj 11 (cM call127 (a6a z.pl z.ps z.pm z.i x u (by omega))) ?_; clear p;rintro _ U ⟨q, rfl, s⟩;obtain rfl := s.symm;refine ⟨(bU (ir fun _ => rfl) (bU (ir fun _ => rfl) (bQ bH))), fun p => ?_⟩;refine aJ ?_;refine oE (b := b) fun t F => ?_;refine gi (b := b) (o' := ag (jp z (pV z.r) (pV z.c) (pV z.vic) (pV z.tim) (.slice t g.es.length F) g.clock g.halted) 129) rfl ?_;refine aw ?_;refine aD rfl (ua call109 rfl (N2 W0 _ b z d h G K (pV z.r) (pV z.c) (pV z.vic) (pV z.tim) (.slice t g.es.length F) g.clock g.halted ⟨(cr z.i 8 x).fr, (cr z.i 8 x).po, (cr z.i 8 x).pg⟩ D (by have := e.len; show 0 < (cr z.i 8 x).fr.length; omega) o n M (by show n ≤ (bN (cr z.i 8 x).po z.i).length; omega) a cap ws N O P C w)) ?_;rintro _ U ⟨f, j, l, m, rfl, s⟩;obtain rfl := s.symm;rw [J];refine aw ?_;refine gi (b := b) (o' := r9 { z with r := f, c := j, vic := l, tim := m } (s0 g) (.slice t g.es.length F)) rfl ?_;refine eD (B := e6 b ({ z with r := f, c := j, vic := l, tim := m }, s0 g) :: pt f (dw (List.replicate 16 0) 0) :: pt j (dS lX z.i) :: g7 l [] :: eS m [] :: pt z.v (gj z.ps z.pm d) :: dA z.pl (z.ps, Y.po) :: cN z.ps Y.fr :: pt z.pm (dJ Y.pg) :: R) (iB rfl rfl) ?_;refine aw ?_;refine ah (ap sj (uY W0 _ b { z with r := f, c := j, vic := l, tim := m } (s0 g) L)) ?_;refine ah (cq wQ (uZ W0 _ b { z with r := f, c := j, vic := l, tim := m } (s0 g) (by simp) 5 ((dR g.clock : Nat) : Int) 0 0 0)) ?_;refine ac ?_;refine ⟨_, ⟨f, j, l, m, rfl, rfl⟩, ?_⟩;unfold rX;exact IO
end
theorem a6m {b z R} : Ent (pt b (r9 z g0 eg) :: R) (e6 b (z, g0) :: R) :=
  (Ent.cons (eX (E := 300) (sz := 21) (A := R) (B := R))).trans (fH (R := R) (C := [_, _]) ⟨none, 0, rfl⟩)
attribute [local irreducible] ci
theorem a6n c (h : CfK W0 c) (Q : rt c = true) i (hi : i < c.gl.length) (S : ∀ k, k < c.nl.length → (mm c k).1 ≠ (mm c k).2) qs pb fr po (hF : cB fr) (hP : PoOk po) (hl : po.length = fr.length) (h0 : 0 < fr.length) (x2 : (cT c i).2.1 ≤ ((bN po i).length)) a cap ws (hs : ∀ A, cG (aQ W0 A) a 1 iP ws) (hb : ∀ y ∈ ws, y < 4294967296) (hn : ws.length < 9223372036854775808) (K : ws.length ≤ cap) : sP W0 41 [.agg (dC c).toArray, iQ i, pV qs, pV pb, .slice a ws.length cap] (dA pb (qs, po) :: cN qs fr :: R) (fun v B => ∃ f z, v = .tuple #[pV f, iQ 0] ∧ z.k = c ∧ z.i = i ∧ z.ps = qs ∧ z.pl = pb ∧ z.wv = .slice a ws.length cap ∧ B = e6 f (z, g0) :: pt z.r (dw (List.replicate 16 0) 0) :: pt z.c (dS lX i) :: g7 z.vic [] :: eS z.tim [] :: pt z.v (gj qs z.pm 0) :: pt z.pm (dJ (hZ c i ws fr po).pg) :: dA pb (qs, (hZ c i ws fr po).po) :: cN qs (hZ c i ws fr po).fr :: pt z.bx (ag [eg] 217) :: R) := by
 have T := jC Q;have x3 := T.g4;have x4 := T.nn;have x5 := T.gs i hi;obtain ⟨n, p⟩ : ∃ n : Nat, (cT c i).2.1 = (n : Int) := ⟨(cT c i).2.1.toNat, by omega⟩
 have U : (cT c i).2.1.toNat = n := by rw [p]; rfl
 have E : ImOk (laid c i ws fr po) := ut (by omega) ⟨hF, hP, yh, hl⟩;obtain ⟨Y, V⟩ : ∃ Y, laid c i ws fr po = Y := ⟨_, rfl⟩
 have W : ci i (aZ ws n) n ⟨fr, po, iz⟩ = Y := by rw [← V, laid, U]
 have hM : hZ c i ws fr po = ⟨Y.fr, eC c i c.nl.length Y.pg, Y.po⟩ := by rw [hZ, V]
 rw [hM];rw [V] at E;refine am func41 ntmps41 ?_;refine bz fun J => ?_;refine ah (aC GP (AQ c h.ok)) ?_;rw [Q];refine cz (fun F => ?_) fun F => ?_;exact absurd F (by decide);refine cy rfl rfl rfl (fun L => ?_) fun L => ?_;omega;refine aw ?_;refine aA rfl (fun c1 => ?_) fun c1 => ?_;omega;refine aw ?_;refine vK (qs := qs) fun a2 c2 vs hv => ?_;refine aw ?_;refine cy rfl rfl rfl (fun G => ?_) fun G => ?_;cases G;refine aw ?_;refine cy rfl rfl rfl (fun H => ?_) fun H => ?_;omega;refine aw ?_;refine aA rfl (fun c3 => ?_) fun c3 => ?_;cases c3;refine au 3 ?_;refine eD (a1b hv) ?_;refine aX (ae rfl (pB Gh v4 rfl rfl) ?_);refine ae rfl (aM rfl) (ae rfl (aM rfl) (ae rfl (aM rfl) (ae rfl (fR underlying217 zeroValue217 (aP sizeOf215 fQ) fP) ?_)));refine aD rfl (kg rfl) ?_;rintro _ _ ⟨j, rfl, rfl⟩;refine aa (a1a rfl rfl rfl rfl rfl rfl) ?_;refine bz fun f => ?_;refine bz fun d => ?_;refine bz fun l => ?_;refine ar dX ?_;refine gi (b := d) (o' := dJ iz) rfl ?_;refine gi (b := l) (o' := gj qs d 0) rfl ?_;refine gi (b := j) (o' := ag [eg] 217) rfl ?_;refine gi (b := f) (o' := ag (jp ⟨0, 0, l, qs, d, pb, 0, 0, j, .slice a ws.length cap, i, c⟩ (.pointer none) (.pointer none) (.pointer none) (.pointer none) eg 0 false) 129) rfl ?_;refine aw ?_;refine aD rfl (ua call109 rfl (N2 W0 _ f ⟨0, 0, l, qs, d, pb, 0, 0, j, .slice a ws.length cap, i, c⟩ 0 h Q hi (.pointer none) (.pointer none) (.pointer none) (.pointer none) eg 0 false ⟨fr, po, iz⟩ ⟨hF, hP, yh, hl⟩ h0 B4 n p (by show n ≤ (bN po i).length; omega) a cap ws rfl hs hb hn K)) ?_;rintro _ B_ ⟨s, t, u, w, rfl, X⟩;obtain rfl := X.symm;rw [W];refine au 10 ?_;refine jf ?_;refine fM (fun k : Nat => k ≤ c.nl.length) (fun k => [(1, iQ i), (5, pV J), (12, pV f), (14, iQ k)]) (fun k => pt J (ik c) :: pt f (ag (jp ⟨0, 0, l, qs, d, pb, 0, 0, j, .slice a ws.length cap, i, c⟩ (pV s) (pV t) (pV u) (pV w) eg 0 false) 129) :: pt s (dw (List.replicate 16 0) 0) :: pt t (dS lX i) :: g7 u [] :: eS w [] :: pt l (gj qs d 0) :: pt d (dJ (eC c i k Y.pg)) :: dA pb (qs, Y.po) :: cN qs Y.fr :: pt j (ag [eg] 217) :: R) (fun k => c.nl.length - k) 0 ?_ ?_ ?_ ?_;exact QaF _
 · repeat (first | exact bK | refine bc rfl ?_)
 rw [show eC c i 0 Y.pg = Y.pg from rfl];exact IO;intro k hk;have I := yg (c := c) (i := i) E.pg k;refine aw ?_;refine aA rfl (fun Z => ?_) fun Z => ?_;refine au 2 ?_;refine cF (fun C : List Pl => C = eC c i (k + 1) Y.pg) (fun _ => [(1, iQ i), (5, pV J), (12, pV f), (14, iQ k)]) (fun C => pt J (ik c) :: pt f (ag (jp ⟨0, 0, l, qs, d, pb, 0, 0, j, .slice a ws.length cap, i, c⟩ (pV s) (pV t) (pV u) (pV w) eg 0 false) 129) :: pt s (dw (List.replicate 16 0) 0) :: pt t (dS lX i) :: g7 u [] :: eS w [] :: pt l (gj qs d 0) :: pt d (dJ C) :: dA pb (qs, Y.po) :: cN qs Y.fr :: pt j (ag [eg] 217) :: R) ?_ ?_;refine au 2 ?_;have m : k < c.nl.length := by omega
 obtain ⟨g, o, M, hc⟩ := (h.ok.n []).at_ m;obtain ⟨x, hx⟩ : ∃ x, c.nl[k] = x := ⟨_, rfl⟩
 have hA : mm c k = x := by simp [mm, List.getD, m, hx]
 have p := S k m;have D : eC c i (k + 1) Y.pg = if lR (mm c k) i = 0 then eC c i k Y.pg else dO (eC c i k Y.pg) ((8 + k : Nat) : Int) (lP c k, lR (mm c k) i) := rfl;rw [hA] at p D;rw [hx] at hc;refine aw ?_;refine dV 3 (aC call110 (a0B c h.ok Q k (by omega) (by omega))) ?_;refine cF (fun e : List Pl => Pgs e ∧ ((i : Int) = x.1 ∧ e = dO (eC c i k Y.pg) ((8 + k : Nat) : Int) (lP c k, 3) ∨ (i : Int) ≠ x.1 ∧ e = eC c i k Y.pg)) (fun _ => [(1, iQ i), (5, pV J), (12, pV f), (14, iQ k), (15, iQ (lP c k))]) (fun e => pt J (ik c) :: pt f (ag (jp ⟨0, 0, l, qs, d, pb, 0, 0, j, .slice a ws.length cap, i, c⟩ (pV s) (pV t) (pV u) (pV w) eg 0 false) 129) :: pt s (dw (List.replicate 16 0) 0) :: pt t (dS lX i) :: g7 u [] :: eS w [] :: pt l (gj qs d 0) :: pt d (dJ e) :: dA pb (qs, Y.po) :: cN qs Y.fr :: pt j (ag [eg] 217) :: R) ?_ ?_;refine au 5 ?_;refine aa (eB zn zi rfl M rfl rfl m (by first | exact Qac _ | rfl)) ?_;refine aa (aE (hc.weak 0 _ rfl)) ?_;refine ai (fun x0 => ?_) fun x0 => ?_;refine aa (dU (8 + k)) ?_;refine ah (ap GO (Af d (eC c i k Y.pg) I (8 + k : Nat) (lP c k, 3))) ?_;exact bu (dO (eC c i k Y.pg) ((8 + k : Nat) : Int) (lP c k, 3)) (⟨vJ I, .inl ⟨by omega, rfl⟩⟩);exact bu (eC c i k Y.pg) (⟨I, .inr ⟨by omega, rfl⟩⟩);intro e ⟨N, O⟩;refine aw ?_;refine aa (eB zn zi rfl M rfl rfl m (by first | exact Qac _ | rfl)) ?_;refine aa (aE (hc.weak 1 _ rfl)) ?_;refine ai (fun x1 => ?_) fun x1 => ?_;refine aa (dU (8 + k)) ?_;refine ah (ap GO (Af d e N (8 + k : Nat) (lP c k, 1))) ?_;refine bu (dO e ((8 + k : Nat) : Int) (lP c k, 1)) ?_;rcases O with ⟨q, _⟩ | ⟨q, rfl⟩;omega;rw [D, lR, Qaa q, Qad (show (i : Int) = x.2 by omega), Qaa (show ¬((1 : Int) = 0) by decide)];refine bu e ?_;rcases O with ⟨q, rfl⟩ | ⟨q, rfl⟩;rw [D, lR, Qad q, Qaa (show ¬((3 : Int) = 0) by decide)];rw [D, lR, Qaa q, Qaa (show ¬((i : Int) = x.2) by omega), Qad (show (0 : Int) = 0 from rfl)];intro C P;subst P;refine aw ?_;refine aa bY ?_;exact bR (k + 1) (by omega);refine aw ?_;refine az ?_;obtain rfl : k = c.nl.length := by omega
 refine ⟨_, ⟨f, ⟨s, t, l, qs, d, pb, u, w, j, .slice a ws.length cap, i, c⟩, rfl, rfl, rfl, rfl, rfl, rfl, rfl⟩, ?_⟩;exact Ent.trans (B := pt f (r9 ⟨s, t, l, qs, d, pb, u, w, j, .slice a ws.length cap, i, c⟩ g0 eg) :: pt s (dw (List.replicate 16 0) 0) :: pt t (dS lX i) :: g7 u [] :: eS w [] :: pt l (gj qs d 0) :: pt d (dJ (eC c i c.nl.length Y.pg)) :: dA pb (qs, Y.po) :: cN qs Y.fr :: pt j (ag [eg] 217) :: R) inferInstance a6m
end
section
open Go.RowKit
set_option linter.unusedSimpArgs false
set_option linter.unusedVariables false
set_option maxRecDepth 20000
set_option synthInstance.maxSize 1000
set_option synthInstance.maxHeartbeats 400000
abbrev rA (b : Nat) (z : Rz) (g : Gu) (L : List Nat) (T : List (Int × Int)) (d : Nat) (x : Mm) (R : List HP) : List HP := e6 b (z, g) :: pt z.r (dw g.c.rl g.c.pc) :: pt z.c (dS g.c.cs z.i) :: g7 z.vic L :: eS z.tim T :: pt z.v (gj z.ps z.pm d) :: cN z.ps x.fr :: pt z.pm (dJ x.pg) :: dA z.pl (z.ps, x.po) :: R
abbrev a6o (gb : Nat) (z : Gz) (g : Gu) (x : Mm) (R : List HP) : List HP := gA gb z g x (cR z.pb (z.ps, x.po) :: aY z.ps x.fr :: R)
theorem N3 c (h : CfK W0 c) (hr : rt c = true) i (hi : i < c.gl.length) a cap ws (hs : ∀ A, cG (aQ W0 A) a 1 iP ws) (hb : ∀ y ∈ ws, y < 4294967296) (hn : ws.length < 9223372036854775808) (hcap : ws.length ≤ cap) : sP W0 6 [.agg (dC c).toArray, iQ i, .slice a ws.length cap] R (fun v B => ∃ gb z wg wb zr, v = .tuple #[pV gb, pV wb, iQ 0, iQ 0] ∧ z.c = c ∧ z.i = i ∧ z.wv = .slice (some ⟨wg, 0, none⟩) (aZ ws 8).length (aZ ws 8).length ∧ zr.k = c ∧ zr.i = i ∧ zr.wv = .slice a ws.length cap ∧ B = a6o gb z g0 (hZ c i ws (List.replicate (bI c) cm) (dv c (bI c))) (rA wb zr g0 [] [] 0 (hZ c i ws (List.replicate (bI c) cm) (dv c (bI c))) (pt zr.bx (ag [eg] 217) :: pt z.bx sY :: pt wg (ag ((aZ ws 8).map wV) 38) :: R))) := by
 have p := jC hr;have O := p.nd;have P := p.g4;have Q : 0 < bI c ∧ bI c ≤ 32 := by rw [bI]; omega
 have d : (List.replicate (bI c) cm).length = bI c := by simp
 have C : w5 c = bI c := by rw [w5, Qad hr]
 have S := FQ hr hi ws;have q : (cT c i).2.1 ≤ ((bN (dv c (bI c)) i).length : Int) := by
  have Y := AS p hi;have Z := (p.gs i hi).2.2.1;omega
 refine am func6 ntmps6 ?_;refine bz fun x => ?_;refine ah (aC call32 (a0z c h.ok)) ?_;rw [C];refine aa (xQ rfl rfl (show _ = ((bI c : Nat) : Int) by split <;> omega)) ?_;refine aD rfl (aC call33 (Xb (bI c) (by omega))) ?_;rintro _ t ⟨m, rfl, g⟩;obtain rfl := g.symm;refine aw ?_;refine aD rfl (aC call34 (Xp (bI c) (by omega))) ?_;rintro _ t ⟨n, rfl, g⟩;obtain rfl := g.symm;refine aw ?_;refine aD rfl (ap call35 (YC m (List.replicate (bI c) cm) (by rw [d]; omega) (by rw [d]; omega))) ?_;rintro _ t ⟨r, rfl, g⟩;obtain rfl := g.symm;rw [d, ← JX];refine aw ?_;refine aD rfl (ap call36 (ZL n (List.replicate (bI c) cm) (by rw [d]; omega) (by rw [d]; omega))) ?_;rintro _ t ⟨s, rfl, g⟩;obtain rfl := g.symm;rw [d, ← JX];refine aw ?_;refine d4 (fun f : Nat => f ≤ bI c) (fun f => [(1, iQ i), (2, .slice a ws.length cap), (3, pV x), (10, iQ (bI c : Nat)), (11, pV m), (13, pV n), (15, pV r), (17, pV s), (19, iQ f)]) (fun f => pt x (ik c) :: cR r (m, dv c f) :: aY m (List.replicate (bI c) cm) :: dA s (n, dv c f) :: cN n (List.replicate (bI c) cm) :: R) (fun f => bI c - f) 0 ?_ ?_;exact QaF _;intro f hf;refine aw ?_;refine aA rfl (fun T => ?_) fun T => ?_;refine au 2 ?_;refine cF (fun _ : Unit => f < bI c) (fun _ => [(1, iQ i), (2, .slice a ws.length cap), (3, pV x), (10, iQ (bI c : Nat)), (11, pV m), (13, pV n), (15, pV r), (17, pV s), (19, iQ f)]) (fun _ => pt x (ik c) :: cR r (m, dv c (f + 1)) :: aY m (List.replicate (bI c) cm) :: dA s (n, dv c (f + 1)) :: cN n (List.replicate (bI c) cm) :: R) ?_ ?_;refine au 2 ?_;have b : f < bI c := by omega
 have U := EK (i := (kT c f).getD 0) hr b;have D := a1c hr b;refine aw ?_;refine ah (aC call37 (a0A c h f hr (by rw [bI] at b; omega))) ?_;refine bj fun V => ?_;refine ar aF ?_;refine aA rfl (fun l => ?_) fun l => ?_;obtain ⟨j, E⟩ : ∃ j, kT c f = some j := by
  cases e : kT c f with
  | some j => exact ⟨j, rfl⟩
  | none => have := D e; rw [this] at l; exact absurd l (by decide)
 have u := EK hr b E;have W := ((AR p).1 E).1;have o := a0t b E;refine au 5 ?_;refine ae rfl (aE (aI (by rw [u]; rfl : (EC (sW c f))[1]? = some (iQ (j : Int))))) ?_;refine jO (cq call38 (YD r m (dv c f) (List.replicate (bI c) cm) f j (by rw [nK]; exact b) (by rw [d]; exact b) (by omega) (y4 p f) (by rw [uB b, Qaa (by omega)]))) ?_;rw [Kk, ← o];refine au 6 ?_;refine ae rfl (aE (aI (by rw [u]; rfl : (EC (sW c f))[1]? = some (iQ (j : Int))))) ?_;refine ah (cq call39 (ZN s n (dv c f) (List.replicate (bI c) cm) f j (by rw [nK]; exact b) (by rw [d]; exact b) (by omega) (by rw [uB b, Qaa (by omega)]))) ?_;rw [Kk, ← o];exact bu () (b);have o : dv c (f + 1) = dv c f := by
  cases e : kT c f with
  | none => exact a0u e
  | some j => have := EK hr b e; rw [this] at l; exact absurd rfl l
 refine aw ?_;refine bu () ?_ (he := ?_);exact b;rw [o];exact IO;intro _ b;refine aw ?_;refine aa bY ?_;exact bR (f + 1) (by omega);refine aw ?_;obtain rfl : f = bI c := by omega
 refine aD rfl (cq call40 (a5i W0 _ c h hr i hi m r (List.replicate (bI c) cm) (dv c (bI c)) (cB.new _) (y4 p _) (by rw [nK, d]) (by rw [d]; omega) q a cap ws hs hb hn S)) ?_;rintro _ t ⟨gb, z, wg, rfl, F, G, H, I, J, g⟩;obtain rfl := g.symm;obtain rfl := H;obtain rfl := I;refine aw ?_;refine aD rfl (cq call41 (a6n c h hr i hi (fun k X => a5k hr X) n s (List.replicate (bI c) cm) (dv c (bI c)) (cB.new _) (y4 p _) (by rw [nK, d]) (by rw [d]; omega) q a cap ws hs hb hn hcap)) ?_;rintro _ t ⟨wb, zr, rfl, K, w, L, M, N, g⟩;obtain rfl := g.symm;obtain rfl := L;obtain rfl := M;refine aw ?_;refine aV (.cons (aS rfl) (.cons (aS rfl) (.cons (aS rfl) (.cons (aS rfl) .nil)))) ?_;refine ⟨_, ⟨gb, z, wg, wb, zr, rfl, F, G, J, K, w, N, rfl⟩, ?_⟩;unfold rA;rw [w];exact IO
end
section
open Go.RowKit
set_option linter.unusedSimpArgs false
set_option linter.unusedVariables false
set_option maxRecDepth 20000
set_option synthInstance.maxSize 1000
set_option synthInstance.maxHeartbeats 400000
theorem N4 W0 R c (h : CfK W0 c) (g : rt c = true) i (j : i < c.gl.length) a cap ws (k : ∀ A, cG (aQ W0 A) a 1 iP ws) (l : ∀ y ∈ ws, y < 4294967296) (m : ws.length < 9223372036854775808) (b : ws.length ≤ cap) : sP W0 6 [.agg (dC c).toArray, iQ i, .slice a ws.length cap] R (fun v B => ∃ d z e f, v = .tuple #[pV d, pV f, iQ 0, iQ 0] ∧ z.c = c ∧ z.i = i ∧ z.wv = .slice (some ⟨e, 0, none⟩) (aZ ws 8).length (aZ ws 8).length ∧ B = gA d z g0 (hZ c i ws (List.replicate (bI c) cm) (dv c (bI c))) (pt z.bx sY :: pt e (ag ((aZ ws 8).map wV) 38) :: cR z.pb (z.ps, (hZ c i ws (List.replicate (bI c) cm) (dv c (bI c))).po) :: aY z.ps (hZ c i ws (List.replicate (bI c) cm) (dv c (bI c))).fr :: R)) :=
  ge (N3 c h g i j a cap ws k l m b) fun v B n => by
 obtain ⟨d, z, e, f, r, rfl, o, p, q, _, _, _, rfl⟩ := n;exact ⟨_, ⟨d, z, e, f, rfl, o, p, q, rfl⟩, IO⟩
end
end Go.Proofs.YtbhimdcapbflkaaGreatDoor
