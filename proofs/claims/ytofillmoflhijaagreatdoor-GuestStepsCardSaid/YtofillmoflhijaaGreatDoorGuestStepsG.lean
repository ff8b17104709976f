/-
  Part 7 of the proof of GuestSteps: rules, and walks of functions. Conditions: none.
-/
import Derived.Test.YtofillmoflhijaaGreatDoorGuestStepsF
namespace Go.Proofs.YtofillmoflhijaaGreatDoor
open Go.Proofs.Tryz
set_option linter.unusedSimpArgs false
set_option linter.unusedVariables false
set_option maxRecDepth 20000
set_option linter.defProp false
set_option synthInstance.maxSize 8192
set_option synthInstance.maxHeartbeats 2000000
variable {W0 : World} {R : List HP}
section
open Go.RowKit
theorem a5B {id k i x} (h : (jU id k i x).1.k = 5) : (jU id k i x).2.pc = x.pc := by
 unfold jU at h ⊢;split at h <;> rename_i q;rw [Qad q];rw [Qab q];unfold gF at h ⊢
 repeat' split at h
 all_goals try (cases h; done)
 simp only [*, QbJ, QcO];unfold kE at h ⊢
 repeat' split at h
 all_goals try (cases h; done)
 simp only [*, QbJ, QcO]
theorem CpOk.int {g} (h : CpOk g.c) : CpOk (fY g).2.c := by
 unfold fY;split
 cases q : jK g.ls with
 | none => exact h
 | some n =>
  have := (yK q).1;exact h.enter (by omega) (by decide)
 exact h
theorem a5C g : (fY g).2.clock = g.clock := by
 unfold fY;split;cases jK g.ls <;> rfl;rfl
abbrev MQ (b : Nat) (z : Rz) (g : Gu) (L : List Nat) (T : List (Int × Int)) (d : Nat) (fr : List aE) (pg : List Pl) (R : List HP) : List HP := C1 b z g L T (eB z.v z.ps z.pm d fr pg R)
section
variable (W0 : World) (R : List HP) (b : Nat) (z : Rz) (g : Gu) (L : List Nat) (T : List (Int × Int)) (d : Nat) (fr : List aE) (pg : List Pl)
theorem a5D (h : Pgs pg) (M : cC fr) (hc : CpOk g.c) (U : z.i < 4) (hk : g.clock < 999999) (hl : LRel g.ls g.ln L) (W : g.ln < 1000000) (ht : TRel g.tm T) : sP W0 72 [pV b] (MQ b z g L T d fr pg R) (fun v B => ∃ L' T', v = iQ (fk z.i g fr pg).1.1 ∧ B = MQ b z (fk z.i g fr pg).1.2 L' T' d (fk z.i g fr pg).2 pg R ∧ LRel (fk z.i g fr pg).1.2.ls (fk z.i g fr pg).1.2.ln L' ∧ TRel (fk z.i g fr pg).1.2.tm T') := by
 obtain ⟨q, V⟩ : ∃ q, fY (iX (j7 g)) = q := ⟨_, rfl⟩
 have y : CpOk q.2.c := by rw [← V]; exact CpOk.int (g := iX (j7 g)) hc
 have x0 : q.2.clock = g.clock + 1 := by rw [← V, a5C]
 have e := Fu z.i q.2 fr pg;obtain ⟨F, N⟩ : ∃ F, pu q.2 fr pg q.2.c.pc 4 0 = F := ⟨_, rfl⟩
 obtain ⟨w, K⟩ : ∃ w, pr q.2 fr pg q.2.c.pc 4 0 = w := ⟨_, rfl⟩
 have hw : w < 4294967296 := by rw [← K]; exact uY M
 obtain ⟨vb, C⟩ : ∃ b, gX (fF w) = b := ⟨_, rfl⟩
 have Q := DN w;obtain ⟨o, O⟩ : ∃ o, jU z.i (dZ q.2.clock) (fF w) q.2.c = o := ⟨_, rfl⟩
 have j : EfOk o.1 ∧ CpOk o.2 := by rw [← O]; exact DY y Q.2.1 U
 have A : o.1.k = 5 → o.2.pc = q.2.c.pc := by rw [← O]; exact a5B
 obtain ⟨s, hs⟩ : ∃ s, fk z.i g fr pg = s := ⟨_, rfl⟩
 have f := hs;rw [fk, V, jx, N, K, C, O] at f;rw [jx, N, K, C, O] at e;rw [hs];refine jq 6 func72 ntmps72 ?_;refine pB (b := b) fun a c => ?_;refine aY (ac rfl (aM rfl) (ac rfl (ik rfl) ?_));refine ac rfl (cD rfl mr rfl aR rfl (by first | exact Qac _ | rfl)) ?_;refine ac rfl (cg db rfl (aJ rfl)) ?_;refine ac rfl (cY rfl rfl (by rw [bS (by omega)]; omega : IntKind.wrap .i64 ((g.clock : Int) + 1) = ((g.clock + 1 : Nat) : Int))) ?_;refine ac rfl (ik rfl) ?_;refine ac rfl (cD rfl mr rfl aR rfl (by first | exact Qac _ | rfl)) ?_;refine eU (lL aR rfl rfl rfl (Qaa rfl) (by exact rfl : (ke z g (.slice a g.es.length c)).set 42 (.int .i64 ((g.clock + 1 : Nat) : Int)) = ke z (j7 g) (.slice a g.es.length c))) ?_;rintro _ _ rfl;refine aP (aH (aQ (aQ (aY (ac rfl (aM rfl) (ac rfl (ik rfl) ?_))))));refine ac rfl (cD rfl mr rfl gO rfl (by first | exact Qac _ | rfl)) ?_;refine ac rfl (cg nj rfl (aJ rfl)) ?_;refine aP (aH ?_);refine aD rfl (fun X => ?_) fun X => ?_;refine au 7 ?_;refine ae ?_;rw [Qad X] at f;subst f;exact ⟨_, ⟨L, T, rfl, rfl, hl, ht⟩, eD (g := j7 g) rfl rfl⟩;refine aw ?_;rw [Qab X] at f;refine dr (B := C1 b z (j7 g) L T (eB z.v z.ps z.pm d fr pg R)) (eD (g := j7 g) rfl rfl) ?_;refine aw ?_;refine aG rfl (vG call151 rfl (a5A W0 _ b z (j7 g) L T hc (by show g.clock + 1 < _; omega) hl W ht)) ?_;rintro _ S ⟨p, t, rfl, x, l, m⟩;obtain rfl := x.symm;rw [V] at l m ⊢;refine aw ?_;refine ai (fun Y => ?_) fun Y => ?_;refine ae ?_;rw [Qad Y] at f;subst f;exact ⟨_, ⟨p, t, rfl, rfl, l, m⟩, IO⟩;rw [Qab Y] at f;refine pB (b := b) (z := z) (g := q.2) fun a c => ?_;refine aw ?_;refine aa (aF (aJ (lW y.r.len))) ?_;refine bc [b] 16 fun n => ?_;refine aj 0 8 n ?_;refine aj 9 1 n ?_;refine bG 8 (ao GU (BN z.c y.cs)) fun n => ?_;refine bX 10 (cK call152 (LE z.v z.ps z.pm d fr pg h M (iu q.2.c.cs) (gY q.2.c.cs) (!e8 q.2.c.cs) q.2.c.pc y.pc 4 0)) ?_; clear n;rintro _ S ⟨rfl, x⟩;obtain rfl := x.symm;rw [show lQ fr pg (iu q.2.c.cs) (gY q.2.c.cs) (!e8 q.2.c.cs) q.2.c.pc 4 0 = F from N, show pp fr pg (iu q.2.c.cs) (gY q.2.c.cs) (!e8 q.2.c.cs) q.2.c.pc 4 0 = w from K];refine ⟨aV, fun n => ?_⟩;refine aj 11 5 n ?_;refine aK ?_;refine ai (fun Z => ?_) fun Z => ?_;rw [Qad Z] at f e;refine dr (B := di b (z, bZ q.2) :: pt z.r (cI q.2.c.rl q.2.c.pc) :: pt z.c (d9 q.2.c.cs z.i) :: dO z.vic p :: dF z.tim t :: eB z.v z.ps z.pm d fr pg R) (eD (g := bZ q.2) rfl rfl) ?_;refine aw ?_;refine aa (bD (d8 F)) ?_;refine aa (qj rfl rfl (d8 _)) ?_;refine aa (cY rfl rfl (d8 _)) ?_;refine ah (cK wZ (vf W0 _ b z (bZ q.2) y (by show q.2.clock < _; omega) (rf 3 F) q.2.c.pc (dU _) y.pc)) ?_;refine ae ?_;subst f;exact ⟨_, ⟨p, t, rfl, rfl, by rw [e.1, e.2.1]; exact l, by rw [e.2.2]; exact m⟩, IO⟩;rw [Qab Z] at f e;refine ah (aC call155 (a5q w hw)) ?_;rw [C];refine bi fun b6 => ?_;refine av aB ?_;refine ai (fun P => ?_) fun P => ?_;rw [Qad (by simpa using P)] at f e;refine dr (B := di b (z, bZ q.2) :: pt z.r (cI q.2.c.rl q.2.c.pc) :: pt z.c (d9 q.2.c.cs z.i) :: dO z.vic p :: dF z.tim t :: eB z.v z.ps z.pm d fr pg R) (eD (g := bZ q.2) rfl rfl) ?_
 refine aw ?_;refine ah (cK wZ (vf W0 _ b z (bZ q.2) y (by show q.2.clock < _; omega) 1 w (by decide) hw)) ?_;refine ae ?_;subst f;exact ⟨_, ⟨p, t, rfl, rfl, by rw [e.1, e.2.1]; exact l, by rw [e.2.2]; exact m⟩, IO⟩;obtain rfl : vb = true := by simpa using P
 rw [Qab (by decide)] at f e;refine bc [b, b6] 18 fun n => ?_;refine aj 0 10 n ?_;refine fP (is := [10, 15]) (by kernel_rfl) rfl ⟨?_, ?_, trivial⟩;refine dL (ao qf (BY W0 _ b z q.2 _ (by omega))) ?_; clear n;rintro _ S ⟨rfl, x⟩;obtain rfl := x.symm;refine ⟨aV, fun n => ?_⟩;refine fP (is := [11, 15]) (by kernel_rfl) rfl ⟨?_, ?_, trivial⟩;refine dL (cA Oo (FP W0 _ (fF w) z.r z.c ((dZ q.2.clock : Nat) : Int) q.2.c z.i y C U (by omega))) ?_; clear n;rintro _ S ⟨rfl, x⟩;obtain rfl := x.symm;rw [Qaf, O];refine ⟨aV, fun n => ?_⟩;refine aj 12 3 n ?_;refine bX 15 (dQ jN) ?_; clear n;rintro _ _ ⟨u, rfl, rfl⟩;refine ⟨aV, fun n => ?_⟩;refine cj 16 aB fun n => ?_;refine aj 17 1 n ?_;refine aK ?_;refine ai (fun D => ?_) fun D => ?_;rw [eJ, Qad (by omega)] at f e;refine dr (B := di b (z, (dB (bZ q.2) o.2)) :: pt z.r (cI o.2.rl o.2.pc) :: pt z.c (d9 o.2.cs z.i) :: pt u (ag (cq o.1) 276) :: dO z.vic p :: dF z.tim t :: eB z.v z.ps z.pm d fr pg R) (eD (g := (dB (bZ q.2) o.2)) rfl rfl) ?_;refine aw ?_;refine ah (qy zJ rfl (FU W0 _ b z (dB (bZ q.2) o.2) d fr pg h M j.2 (by show q.2.clock < _; omega) o.1 j.1 (by omega))) ?_;refine ae ?_;subst f;exact ⟨_, ⟨p, t, rfl, rfl, by rw [e.1, e.2.1]; exact l, by rw [e.2.2]; exact m⟩, IO⟩;refine ai (fun E => ?_) fun E => ?_;rw [eJ, Qab (by omega), Qad (by omega)] at f e;refine dr (B := di b (z, (dB (bZ q.2) o.2)) :: pt z.r (cI o.2.rl o.2.pc) :: pt z.c (d9 o.2.cs z.i) :: pt u (ag (cq o.1) 276) :: dO z.vic p :: dF z.tim t :: eB z.v z.ps z.pm d fr pg R) (eD (g := (dB (bZ q.2) o.2)) rfl rfl) ?_;refine aw ?_;refine ah (qy zJ rfl (FT W0 _ b z (dB (bZ q.2) o.2) d fr pg h M j.2 (by show q.2.clock < _; omega) o.1 j.1 (by omega))) ?_;refine ae ?_;subst f;exact ⟨_, ⟨p, t, rfl, rfl, by rw [e.1, e.2.1]; exact l, by rw [e.2.2]; exact m⟩, IO⟩;refine ai (fun G => ?_) fun G => ?_;rw [eJ, Qab (by omega), Qab (by omega), Qad (by omega)] at f e;refine dr (B := di b (z, (dB (bZ q.2) o.2)) :: pt z.r (cI o.2.rl o.2.pc) :: pt z.c (d9 o.2.cs z.i) :: pt u (ag (cq o.1) 276) :: dO z.vic p :: dF z.tim t :: eB z.v z.ps z.pm d fr pg R) (eD (g := (dB (bZ q.2) o.2)) rfl rfl) ?_;refine aw ?_;refine ah (cK wZ (vf W0 _ b z (dB (bZ q.2) o.2) j.2 (by show q.2.clock < _; omega) o.1.cause o.1.tval (by have := j.1.cause; omega) j.1.tval)) ?_;refine ae ?_;subst f;exact ⟨_, ⟨p, t, rfl, rfl, by rw [e.1, e.2.1]; exact l, by rw [e.2.2]; exact m⟩, IO⟩;refine ai (fun H => ?_) fun H => ?_;rw [eJ, Qab (by omega), Qab (by omega), Qab (by omega), Qab (by omega), Qab (by omega), Qad (by omega)] at f e;refine dr (B := di b (z, (dB (bZ q.2) o.2)) :: pt z.r (cI o.2.rl o.2.pc) :: pt z.c (d9 o.2.cs z.i) :: pt u (ag (cq o.1) 276) :: dO z.vic p :: dF z.tim t :: eB z.v z.ps z.pm d fr pg R) (eD (g := (dB (bZ q.2) o.2)) rfl rfl) ?_;refine aw ?_;refine ae ?_;subst f;exact ⟨_, ⟨p, t, rfl, rfl, by rw [e.1, e.2.1]; exact l, by rw [e.2.2]; exact m⟩, IO⟩;refine ai (fun I => ?_) fun I => ?_;rw [eJ, Qab (by omega), Qab (by omega), Qab (by omega), Qab (by omega), Qad (by omega)] at f e;have A := A (by omega)
 refine av (iJ (by exact rfl : (ke z q.2 (.slice a q.2.es.length c)).set 43 (.bool true) = ke z (fg q.2) (.slice a q.2.es.length c))) ?_;refine bc [b, u] 9 fun n => ?_;refine aj 0 8 n ?_;refine cj 8 (du (by rw [nS j.2.r.len]; decide) (pz j.2.r.len)) fun n => ?_;refine aK ?_;refine dr (B := di b (z, iO (fg (dB (bZ q.2) o.2)) o.1.pc) :: pt z.r (cI o.2.rl o.1.pc) :: pt z.c (d9 o.2.cs z.i) :: pt u (ag (cq o.1) 276) :: dO z.vic p :: dF z.tim t :: eB z.v z.ps z.pm d fr pg R) (eD (g := iO (fg (dB (bZ q.2) o.2)) o.1.pc) rfl rfl) ?_;refine aw ?_;refine ah (ao qf (sh W0 _ b z (iO (fg (dB (bZ q.2) o.2)) o.1.pc) (by show q.2.clock < _; omega))) ?_;refine ah (cA tW (si W0 _ b z (iO (fg (dB (bZ q.2) o.2)) o.1.pc) j.2.r.len 4 ((dZ q.2.clock : Nat) : Int) 0 0 q.2.c.pc)) ?_;refine ae ?_;rw [← A];subst f;exact ⟨_, ⟨p, t, rfl, rfl, by rw [e.1, e.2.1]; exact l, by rw [e.2.2]; exact m⟩, IO⟩;refine ai (fun J => ?_) fun J => ?_;rw [eJ, Qab (by omega), Qab (by omega), Qab (by omega), Qad (by omega)] at f e;refine bc [b, u] 9 fun n => ?_;refine aj 0 8 n ?_;refine cj 8 (du (by rw [nS j.2.r.len]; decide) (pz j.2.r.len)) fun n => ?_;refine aK ?_;refine dr (B := di b (z, iO (dB (bZ q.2) o.2) o.1.pc) :: pt z.r (cI o.2.rl o.1.pc) :: pt z.c (d9 o.2.cs z.i) :: pt u (ag (cq o.1) 276) :: dO z.vic p :: dF z.tim t :: eB z.v z.ps z.pm d fr pg R) (eD (g := iO (dB (bZ q.2) o.2) o.1.pc) rfl rfl) ?_;refine aw ?_;refine ae ?_;subst f;exact ⟨_, ⟨p, t, rfl, rfl, by rw [e.1, e.2.1]; exact l, by rw [e.2.2]; exact m⟩, IO⟩;rw [eJ, Qab (by omega), Qab (by omega), Qab (by omega), Qab (by omega), Qab (by omega), Qab (by omega)] at f e;refine dr (B := di b (z, (dB (bZ q.2) o.2)) :: pt z.r (cI o.2.rl o.2.pc) :: pt z.c (d9 o.2.cs z.i) :: pt u (ag (cq o.1) 276) :: dO z.vic p :: dF z.tim t :: eB z.v z.ps z.pm d fr pg R) (eD (g := (dB (bZ q.2) o.2)) rfl rfl) ?_;refine aw ?_;refine ae ?_;subst f;exact ⟨_, ⟨p, t, rfl, rfl, by rw [e.1, e.2.1]; exact l, by rw [e.2.2]; exact m⟩, IO⟩;skip;refine dL (dQ jN) ?_; clear n;rintro _ _ ⟨u, rfl, rfl⟩;refine ⟨aV, fun n => ?_⟩;refine bX 11 (cA Oo (FP W0 _ (fF w) z.r z.c ((dZ q.2.clock : Nat) : Int) q.2.c z.i y C U (by omega))) ?_; clear n;rintro _ S ⟨rfl, x⟩;obtain rfl := x.symm;rw [Qaf, O];refine ⟨aV, fun n => ?_⟩;refine aj 12 3 n ?_;refine cj 16 aB fun n => ?_;refine aj 17 1 n ?_;refine aK ?_;refine ai (fun D => ?_) fun D => ?_;rw [eJ, Qad (by omega)] at f e;refine dr (B := di b (z, (dB (bZ q.2) o.2)) :: pt z.r (cI o.2.rl o.2.pc) :: pt z.c (d9 o.2.cs z.i) :: pt u (ag (cq o.1) 276) :: dO z.vic p :: dF z.tim t :: eB z.v z.ps z.pm d fr pg R) (eD (g := (dB (bZ q.2) o.2)) rfl rfl) ?_;refine aw ?_;refine ah (qy zJ rfl (FU W0 _ b z (dB (bZ q.2) o.2) d fr pg h M j.2 (by show q.2.clock < _; omega) o.1 j.1 (by omega))) ?_;refine ae ?_;subst f;exact ⟨_, ⟨p, t, rfl, rfl, by rw [e.1, e.2.1]; exact l, by rw [e.2.2]; exact m⟩, IO⟩;refine ai (fun E => ?_) fun E => ?_;rw [eJ, Qab (by omega), Qad (by omega)] at f e;refine dr (B := di b (z, (dB (bZ q.2) o.2)) :: pt z.r (cI o.2.rl o.2.pc) :: pt z.c (d9 o.2.cs z.i) :: pt u (ag (cq o.1) 276) :: dO z.vic p :: dF z.tim t :: eB z.v z.ps z.pm d fr pg R) (eD (g := (dB (bZ q.2) o.2)) rfl rfl) ?_
 refine aw ?_;refine ah (qy zJ rfl (FT W0 _ b z (dB (bZ q.2) o.2) d fr pg h M j.2 (by show q.2.clock < _; omega) o.1 j.1 (by omega))) ?_;refine ae ?_;subst f;exact ⟨_, ⟨p, t, rfl, rfl, by rw [e.1, e.2.1]; exact l, by rw [e.2.2]; exact m⟩, IO⟩;refine ai (fun G => ?_) fun G => ?_;rw [eJ, Qab (by omega), Qab (by omega), Qad (by omega)] at f e;refine dr (B := di b (z, (dB (bZ q.2) o.2)) :: pt z.r (cI o.2.rl o.2.pc) :: pt z.c (d9 o.2.cs z.i) :: pt u (ag (cq o.1) 276) :: dO z.vic p :: dF z.tim t :: eB z.v z.ps z.pm d fr pg R) (eD (g := (dB (bZ q.2) o.2)) rfl rfl) ?_;refine aw ?_;refine ah (cK wZ (vf W0 _ b z (dB (bZ q.2) o.2) j.2 (by show q.2.clock < _; omega) o.1.cause o.1.tval (by have := j.1.cause; omega) j.1.tval)) ?_;refine ae ?_;subst f;exact ⟨_, ⟨p, t, rfl, rfl, by rw [e.1, e.2.1]; exact l, by rw [e.2.2]; exact m⟩, IO⟩;refine ai (fun H => ?_) fun H => ?_;rw [eJ, Qab (by omega), Qab (by omega), Qab (by omega), Qab (by omega), Qab (by omega), Qad (by omega)] at f e;refine dr (B := di b (z, (dB (bZ q.2) o.2)) :: pt z.r (cI o.2.rl o.2.pc) :: pt z.c (d9 o.2.cs z.i) :: pt u (ag (cq o.1) 276) :: dO z.vic p :: dF z.tim t :: eB z.v z.ps z.pm d fr pg R) (eD (g := (dB (bZ q.2) o.2)) rfl rfl) ?_;refine aw ?_;refine ae ?_;subst f;exact ⟨_, ⟨p, t, rfl, rfl, by rw [e.1, e.2.1]; exact l, by rw [e.2.2]; exact m⟩, IO⟩;refine ai (fun I => ?_) fun I => ?_;rw [eJ, Qab (by omega), Qab (by omega), Qab (by omega), Qab (by omega), Qad (by omega)] at f e;have A := A (by omega);refine av (iJ (by exact rfl : (ke z q.2 (.slice a q.2.es.length c)).set 43 (.bool true) = ke z (fg q.2) (.slice a q.2.es.length c))) ?_;refine bc [b, u] 9 fun n => ?_;refine aj 0 8 n ?_;refine cj 8 (du (by rw [nS j.2.r.len]; decide) (pz j.2.r.len)) fun n => ?_;refine aK ?_;refine dr (B := di b (z, iO (fg (dB (bZ q.2) o.2)) o.1.pc) :: pt z.r (cI o.2.rl o.1.pc) :: pt z.c (d9 o.2.cs z.i) :: pt u (ag (cq o.1) 276) :: dO z.vic p :: dF z.tim t :: eB z.v z.ps z.pm d fr pg R) (eD (g := iO (fg (dB (bZ q.2) o.2)) o.1.pc) rfl rfl) ?_;refine aw ?_;refine ah (ao qf (sh W0 _ b z (iO (fg (dB (bZ q.2) o.2)) o.1.pc) (by show q.2.clock < _; omega))) ?_;refine ah (cA tW (si W0 _ b z (iO (fg (dB (bZ q.2) o.2)) o.1.pc) j.2.r.len 4 ((dZ q.2.clock : Nat) : Int) 0 0 q.2.c.pc)) ?_;refine ae ?_;rw [← A];subst f;exact ⟨_, ⟨p, t, rfl, rfl, by rw [e.1, e.2.1]; exact l, by rw [e.2.2]; exact m⟩, IO⟩;refine ai (fun J => ?_) fun J => ?_;rw [eJ, Qab (by omega), Qab (by omega), Qab (by omega), Qad (by omega)] at f e;refine bc [b, u] 9 fun n => ?_;refine aj 0 8 n ?_;refine cj 8 (du (by rw [nS j.2.r.len]; decide) (pz j.2.r.len)) fun n => ?_;refine aK ?_;refine dr (B := di b (z, iO (dB (bZ q.2) o.2) o.1.pc) :: pt z.r (cI o.2.rl o.1.pc) :: pt z.c (d9 o.2.cs z.i) :: pt u (ag (cq o.1) 276) :: dO z.vic p :: dF z.tim t :: eB z.v z.ps z.pm d fr pg R) (eD (g := iO (dB (bZ q.2) o.2) o.1.pc) rfl rfl) ?_;refine aw ?_;refine ae ?_;subst f;exact ⟨_, ⟨p, t, rfl, rfl, by rw [e.1, e.2.1]; exact l, by rw [e.2.2]; exact m⟩, IO⟩;rw [eJ, Qab (by omega), Qab (by omega), Qab (by omega), Qab (by omega), Qab (by omega), Qab (by omega)] at f e
 refine dr (B := di b (z, (dB (bZ q.2) o.2)) :: pt z.r (cI o.2.rl o.2.pc) :: pt z.c (d9 o.2.cs z.i) :: pt u (ag (cq o.1) 276) :: dO z.vic p :: dF z.tim t :: eB z.v z.ps z.pm d fr pg R) (eD (g := (dB (bZ q.2) o.2)) rfl rfl) ?_;refine aw ?_;refine ae ?_;subst f;exact ⟨_, ⟨p, t, rfl, rfl, by rw [e.1, e.2.1]; exact l, by rw [e.2.2]; exact m⟩, IO⟩;skip;refine dL (dQ jN) ?_; clear n;rintro _ _ ⟨u, rfl, rfl⟩;refine ⟨aV, fun n => ?_⟩;refine bG 10 (ao qf (BY W0 _ b z q.2 _ (by omega))) fun n => ?_;refine bX 11 (cA Oo (FP W0 _ (fF w) z.r z.c ((dZ q.2.clock : Nat) : Int) q.2.c z.i y C U (by omega))) ?_; clear n;rintro _ S ⟨rfl, x⟩;obtain rfl := x.symm;rw [Qaf, O];refine ⟨aV, fun n => ?_⟩;refine aj 12 3 n ?_;refine cj 16 aB fun n => ?_;refine aj 17 1 n ?_;refine aK ?_;refine ai (fun D => ?_) fun D => ?_;rw [eJ, Qad (by omega)] at f e;refine dr (B := di b (z, (dB (bZ q.2) o.2)) :: pt z.r (cI o.2.rl o.2.pc) :: pt z.c (d9 o.2.cs z.i) :: pt u (ag (cq o.1) 276) :: dO z.vic p :: dF z.tim t :: eB z.v z.ps z.pm d fr pg R) (eD (g := (dB (bZ q.2) o.2)) rfl rfl) ?_;refine aw ?_;refine ah (qy zJ rfl (FU W0 _ b z (dB (bZ q.2) o.2) d fr pg h M j.2 (by show q.2.clock < _; omega) o.1 j.1 (by omega))) ?_;refine ae ?_;subst f;exact ⟨_, ⟨p, t, rfl, rfl, by rw [e.1, e.2.1]; exact l, by rw [e.2.2]; exact m⟩, IO⟩;refine ai (fun E => ?_) fun E => ?_;rw [eJ, Qab (by omega), Qad (by omega)] at f e;refine dr (B := di b (z, (dB (bZ q.2) o.2)) :: pt z.r (cI o.2.rl o.2.pc) :: pt z.c (d9 o.2.cs z.i) :: pt u (ag (cq o.1) 276) :: dO z.vic p :: dF z.tim t :: eB z.v z.ps z.pm d fr pg R) (eD (g := (dB (bZ q.2) o.2)) rfl rfl) ?_;refine aw ?_;refine ah (qy zJ rfl (FT W0 _ b z (dB (bZ q.2) o.2) d fr pg h M j.2 (by show q.2.clock < _; omega) o.1 j.1 (by omega))) ?_;refine ae ?_;subst f;exact ⟨_, ⟨p, t, rfl, rfl, by rw [e.1, e.2.1]; exact l, by rw [e.2.2]; exact m⟩, IO⟩;refine ai (fun G => ?_) fun G => ?_;rw [eJ, Qab (by omega), Qab (by omega), Qad (by omega)] at f e;refine dr (B := di b (z, (dB (bZ q.2) o.2)) :: pt z.r (cI o.2.rl o.2.pc) :: pt z.c (d9 o.2.cs z.i) :: pt u (ag (cq o.1) 276) :: dO z.vic p :: dF z.tim t :: eB z.v z.ps z.pm d fr pg R) (eD (g := (dB (bZ q.2) o.2)) rfl rfl) ?_;refine aw ?_;refine ah (cK wZ (vf W0 _ b z (dB (bZ q.2) o.2) j.2 (by show q.2.clock < _; omega) o.1.cause o.1.tval (by have := j.1.cause; omega) j.1.tval)) ?_;refine ae ?_;subst f;exact ⟨_, ⟨p, t, rfl, rfl, by rw [e.1, e.2.1]; exact l, by rw [e.2.2]; exact m⟩, IO⟩;refine ai (fun H => ?_) fun H => ?_;rw [eJ, Qab (by omega), Qab (by omega), Qab (by omega), Qab (by omega), Qab (by omega), Qad (by omega)] at f e;refine dr (B := di b (z, (dB (bZ q.2) o.2)) :: pt z.r (cI o.2.rl o.2.pc) :: pt z.c (d9 o.2.cs z.i) :: pt u (ag (cq o.1) 276) :: dO z.vic p :: dF z.tim t :: eB z.v z.ps z.pm d fr pg R) (eD (g := (dB (bZ q.2) o.2)) rfl rfl) ?_;refine aw ?_;refine ae ?_;subst f;exact ⟨_, ⟨p, t, rfl, rfl, by rw [e.1, e.2.1]; exact l, by rw [e.2.2]; exact m⟩, IO⟩;refine ai (fun I => ?_) fun I => ?_;rw [eJ, Qab (by omega), Qab (by omega), Qab (by omega), Qab (by omega), Qad (by omega)] at f e
 have A := A (by omega);refine av (iJ (by exact rfl : (ke z q.2 (.slice a q.2.es.length c)).set 43 (.bool true) = ke z (fg q.2) (.slice a q.2.es.length c))) ?_;refine bc [b, u] 9 fun n => ?_;refine aj 0 8 n ?_;refine cj 8 (du (by rw [nS j.2.r.len]; decide) (pz j.2.r.len)) fun n => ?_;refine aK ?_;refine dr (B := di b (z, iO (fg (dB (bZ q.2) o.2)) o.1.pc) :: pt z.r (cI o.2.rl o.1.pc) :: pt z.c (d9 o.2.cs z.i) :: pt u (ag (cq o.1) 276) :: dO z.vic p :: dF z.tim t :: eB z.v z.ps z.pm d fr pg R) (eD (g := iO (fg (dB (bZ q.2) o.2)) o.1.pc) rfl rfl) ?_;refine aw ?_;refine ah (ao qf (sh W0 _ b z (iO (fg (dB (bZ q.2) o.2)) o.1.pc) (by show q.2.clock < _; omega))) ?_;refine ah (cA tW (si W0 _ b z (iO (fg (dB (bZ q.2) o.2)) o.1.pc) j.2.r.len 4 ((dZ q.2.clock : Nat) : Int) 0 0 q.2.c.pc)) ?_;refine ae ?_;rw [← A];subst f;exact ⟨_, ⟨p, t, rfl, rfl, by rw [e.1, e.2.1]; exact l, by rw [e.2.2]; exact m⟩, IO⟩;refine ai (fun J => ?_) fun J => ?_;rw [eJ, Qab (by omega), Qab (by omega), Qab (by omega), Qad (by omega)] at f e;refine bc [b, u] 9 fun n => ?_;refine aj 0 8 n ?_;refine cj 8 (du (by rw [nS j.2.r.len]; decide) (pz j.2.r.len)) fun n => ?_;refine aK ?_;refine dr (B := di b (z, iO (dB (bZ q.2) o.2) o.1.pc) :: pt z.r (cI o.2.rl o.1.pc) :: pt z.c (d9 o.2.cs z.i) :: pt u (ag (cq o.1) 276) :: dO z.vic p :: dF z.tim t :: eB z.v z.ps z.pm d fr pg R) (eD (g := iO (dB (bZ q.2) o.2) o.1.pc) rfl rfl) ?_;refine aw ?_;refine ae ?_;subst f;exact ⟨_, ⟨p, t, rfl, rfl, by rw [e.1, e.2.1]; exact l, by rw [e.2.2]; exact m⟩, IO⟩;rw [eJ, Qab (by omega), Qab (by omega), Qab (by omega), Qab (by omega), Qab (by omega), Qab (by omega)] at f e;refine dr (B := di b (z, (dB (bZ q.2) o.2)) :: pt z.r (cI o.2.rl o.2.pc) :: pt z.c (d9 o.2.cs z.i) :: pt u (ag (cq o.1) 276) :: dO z.vic p :: dF z.tim t :: eB z.v z.ps z.pm d fr pg R) (eD (g := (dB (bZ q.2) o.2)) rfl rfl) ?_;refine aw ?_;refine ae ?_;subst f;exact ⟨_, ⟨p, t, rfl, rfl, by rw [e.1, e.2.1]; exact l, by rw [e.2.2]; exact m⟩, IO⟩
end
theorem MR pb qs po fr (f w : Nat) (hf : f < po.length) (hff : f < fr.length) (ha : dp po f = ((w : Int), true)) : sQ W0 133 [pV pb, iQ f] (dE pb (qs, po) :: cH qs fr :: R) (iQ 0) (dE pb (qs, po.set f (w, false)) :: cH qs (fr.set f cR) :: R) := by
 have e : ez fr.length f = true := by simp only [ez, Qai]; omega
 have a : (po.set f ((w : Int), false)).flatMap ju = po.flatMap ju := by
  have := JJ (po := po) (i := f) (t := false) hf
  rwa [ha] at this
 refine am func133 ntmps133 ?_;refine y9 (pb := pb) (by omega) fun g c p q r h j k l m n o => ?_;refine aw ?_;refine ah (ao qd (oQ qs fr f)) ?_;refine ai (fun b => ?_) fun b => ?_;exact absurd b (by simp [e]);refine aa (bI hf) ?_;refine aa (aF (aJ (yd hf))) ?_;refine ai (fun d => ?_) fun d => ?_;exact absurd (by rw [ha]) d;refine aa (bI hf) ?_;refine av (du (JM hf) (Ep (v := (w : Int)) hf)) ?_;refine ah (ao call85 (JK qs fr f hff)) ?_;refine ae ?_;exact ⟨_, ⟨rfl, rfl⟩, mY (by simp) (by simp) a.symm rfl j k l m n (by rw [Qae, w9, Qam, ← w9, ← Qae]; exact o)⟩
theorem a5E pb qs po w (y : w < 16) (z : 0 < po.length) (r : po.length ≤ 32) (he : cm po w = []) : sQ W0 128 [pV pb, iQ w] (dE pb (qs, po) :: R) (.tuple #[iQ 0, iQ 2]) (dE pb (qs, po) :: R) := by
 have d : ∀ j, j < po.length → dp po j ≠ ((w : Int), false) := fun j s q => by
  have p := kX.2 ⟨s, q⟩;rw [he] at p;cases p
 refine am func128 ntmps128 ?_;refine dj rfl rfl rfl (fun e => ?_) fun e => ?_;omega;refine aw ?_;refine aD rfl (fun t => ?_) fun t => ?_;omega;refine aw ?_;refine d7 (fun i : Nat => i ≤ po.length) (fun i => [(0, pV pb), (1, iQ w), (6, iQ i)]) (fun _ => dE pb (qs, po) :: R) (fun i => po.length - i) 0 ?_ ?_;exact QaK _;intro i A;refine y9 (pb := pb) (by omega) fun g c B C D u h k l m n o => ?_;refine aw ?_;refine ci (fun f => ?_) fun f => ?_;refine ai (fun v => ?_) fun v => ?_;have a : i < po.length := by omega
 refine aa (bI a) ?_;refine aa (aF (aJ (ya a))) ?_;refine ci (fun b => ?_) fun b => ?_;refine aa (bI a) ?_;refine aa (aF (aJ (yd a))) ?_;refine ai (fun x => ?_) fun x => ?_;exact absurd (by rw [Prod.ext_iff]; constructor <;> simp_all) (d i a);refine aa co ?_;refine bM (i + 1) ?_ (he := ?_);omega;exact mY rfl rfl rfl rfl h k l m n o;refine aa co ?_;refine bM (i + 1) ?_ (he := ?_);omega;exact mY rfl rfl rfl rfl h k l m n o;refine aA ?_;exact ⟨_, ⟨rfl, rfl⟩, mY rfl rfl rfl rfl h k l m n o⟩;refine aA ?_;exact ⟨_, ⟨rfl, rfl⟩, mY rfl rfl rfl rfl h k l m n o⟩
theorem a5F pb ps pm i x (h : GMem i x) (hi : i < 16) : sP W0 137 [pV pb, pV pm] (dE pb (ps, x.po) :: cH ps x.fr :: pt pm (dN x.pg) :: R) (fun v B => ∃ k : Nat, v = iQ k ∧ B = dE pb (ps, (cN i 8 x).po) :: cH ps (cN i 8 x).fr :: pt pm (dN (cN i 8 x).pg) :: R) := by
 refine am func137 ntmps137 ?_;refine d7 (fun X : Nat × Nat => X.1 ≤ 8 ∧ X.2 ≤ X.1) (fun X => [(0, pV pb), (1, pV pm), (5, iQ X.2), (6, iQ X.1)]) (fun X => dE pb (ps, (cN i X.1 x).po) :: cH ps (cN i X.1 x).fr :: pt pm (dN (cN i X.1 x).pg) :: R) (fun X => 8 - X.1) (0, 0) ?_ ?_;exact ⟨QaK _, Qao _⟩;intro ⟨n, m⟩ ⟨hn, hm⟩;dsimp only at hn hm ⊢;have hg := h.strip hi n hn;have hs : cN i (n + 1) x = kO i n (cN i n x) := rfl;obtain ⟨y, hy⟩ : ∃ y, cN i n x = y := ⟨_, rfl⟩
 rw [hy] at hg hs ⊢;refine aw ?_;refine aD rfl (fun c3 => ?_) fun c3 => ?_;refine au 2 ?_;refine dw (fun X : Nat => n < 8 ∧ X ≤ n + 1) (fun X => [(0, pV pb), (1, pV pm), (5, iQ X), (6, iQ n)]) (fun X => dE pb (ps, (kO i n y).po) :: cH ps (kO i n y).fr :: pt pm (dN (kO i n y).pg) :: R) ?_ ?_;refine au 5 ?_;refine ah (ao sB (qC pm y.pg hg.pg n)) ?_;refine bi fun b7 => ?_;refine av aB ?_;refine ai (fun c6 => ?_) fun c6 => ?_;have hth : aW y.pg n = true := by simpa using c6
 obtain ⟨f, hf, hff, hfp⟩ := hg.at_ hth;have ho := hg.own n (by omega) hth;rw [hf, Qaf] at ho;have e1 : kO i n y = ⟨y.fr.set f cR, fI y.pg n, y.po.set f ((i : Int), false)⟩ := by
  rw [kO, Qad hth, nR, hf, Qaf]
 refine ew 6 (ao call132 (KX pm y.pg hg.pg n)) ?_;refine ac rfl (aF (aJ (v := iQ f) (by rw [← hf]; rfl))) ?_;refine ah (cA call133 (MR pb ps y.po y.fr f i hfp hff ho)) ?_;refine aa (ee (m + 1)) ?_;refine bY (m + 1) ?_ (he := ?_);omega;rw [e1];exact IO;refine bY m ?_ (he := ?_);omega;have hth : aW y.pg n = false := by simpa using c6
 have e1 : kO i n y = y := by rw [kO, Qab (by rw [hth]; decide)]
 rw [e1];exact IO;intro X ⟨hn8, hX⟩;refine aw ?_;refine aa (ee (n + 1)) ?_;refine bM (n + 1, X) ?_ (he := ?_);omega;show Ent _ (dE pb (ps, (cN i (n + 1) x).po) :: cH ps (cN i (n + 1) x).fr :: pt pm (dN (cN i (n + 1) x).pg) :: R);rw [hs];exact IO;refine aw ?_;refine ae ?_;obtain rfl : n = 8 := by omega
 rw [hy];exact ⟨_, ⟨m, rfl, rfl⟩, IO⟩
theorem MS p : sQ W0 127 [iQ p] R (.bool (decide (0 ≤ p ∧ p < 8))) R := by
 refine am func127 ntmps127 ?_;refine ci (fun a => ?_) fun a => ?_;rw [show decide (0 ≤ p ∧ p < 8) = decide (p < 8) by apply Qaz.2; omega];exact ae ap;rw [show decide (0 ≤ p ∧ p < 8) = false by apply Qal; omega];exact ae ap
theorem wL {rl pc n} (h : rl.length = 16) (a : n < 16) : (rl.map wV ++ [wV pc])[n]? = some (wV (bP rl n)) := by
 have := Mr (pc := pc) h a
 rwa [QaA] at this
theorem ig {W0 A R b z g} [hk : Tk di b A (z, g) R] {k v} (c : ∀ d, (ke z g d)[k]? = some v) : bF (aT W0 A) b k [v] := fun j u a => by
 match j, a with
 | 0, a => cases a; exact mq c
section
variable (W0 : World) (R : List HP) (b : Nat) (z : Rz) (g : Gu) (d : Nat)
theorem a5G (hk : g.clock < 1000000000) (e : g.c.rl.length = 16) : sQ W0 59 [pV b] (di b (z, g) :: pt z.r (cI g.c.rl g.c.pc) :: R) (.tuple #[]) (di b (z, oC (fg g) 4 0 0 g.c.pc) :: pt z.r (cI g.c.rl g.c.pc) :: R) := by
 refine FR fun a c => ?_;refine am func59 ntmps59 ?_;refine av (iJ (by exact rfl : (ke z g (.slice a g.es.length c)).set 43 (.bool true) = ke z (fg g) (.slice a g.es.length c))) ?_;refine dr (B := di b (z, fg g) :: pt z.r (cI g.c.rl g.c.pc) :: R) (eD (g := fg g) rfl rfl) ?_;refine eV [(b, 11, [pV z.r]), (z.r, 0, g.c.rl.map wV ++ [wV g.c.pc])] 11 mixed rfl (bU (ig fun _ => rfl) (bL bE)) (fun d => ?_);refine aj 0 2 d ?_;refine aj 3 3 d ?_;refine az 6 d (aF (ko (k := 0) rfl)) ?_;refine aj 7 2 d ?_;refine az 9 d (aF (cp (k := 1) rfl (lW e))) ?_;refine gB 2 rfl rfl (ao qf (sh W0 _ b z (fg g) hk)) (bU (ig fun _ => rfl) (bL bE)) fun d => ?_;refine gB 10 rfl rfl (cA tW (si W0 _ b z (fg g) e 4 ((dZ g.clock : Nat) : Int) 0 0 g.c.pc)) (bU (ig fun _ => rfl) (bL bE)) fun d => ?_;refine aK ?_;refine bK (.inr rfl) .nil ?_;exact ap
theorem a5H (d : g.c.rl.length = 16) : sQ W0 62 [pV b] (di b (z, g) :: pt z.r (cI g.c.rl g.c.pc) :: R) (.tuple #[wV (bP g.c.rl 1), .agg #[wV (bP g.c.rl 2), wV (bP g.c.rl 3), wV (bP g.c.rl 4), wV (bP g.c.rl 5)]]) (di b (z, g) :: pt z.r (cI g.c.rl g.c.pc) :: R) := by
 refine kS func62 ntmps62 rfl rfl ?_;refine aQ (aY (ac rfl (bj rfl) ?_));refine fi (dQ Cm) fun e => ?_;refine aP (aH (aQ ?_));refine eV [(b, 11, [pV z.r]), (z.r, 0, g.c.rl.map wV ++ [wV g.c.pc])] 43 mixed rfl (bU (ig fun _ => rfl) (bL bE)) (fun a => ?_);refine aj 0 3 a ?_;refine az 3 a (aF (ko (k := 0) rfl)) ?_;refine aj 4 2 a ?_;refine az 6 a (eL (by decide)) ?_;refine az 7 a (aF (cp (k := 1) rfl (wL d (n := 1) (by decide)))) ?_;refine aj 8 3 a ?_;refine az 11 a (aF (ko (k := 0) rfl)) ?_;refine aj 12 2 a ?_;refine az 14 a (eL (by decide)) ?_;refine az 15 a (aF (cp (k := 1) rfl (wL d (n := 2) (by decide)))) ?_;refine aj 16 3 a ?_;refine az 19 a (aF (ko (k := 0) rfl)) ?_;refine aj 20 2 a ?_;refine az 22 a (eL (by decide)) ?_;refine az 23 a (aF (cp (k := 1) rfl (wL d (n := 3) (by decide)))) ?_;refine aj 24 3 a ?_;refine az 27 a (aF (ko (k := 0) rfl)) ?_;refine aj 28 2 a ?_;refine az 30 a (eL (by decide)) ?_;refine az 31 a (aF (cp (k := 1) rfl (wL d (n := 4) (by decide)))) ?_;refine aj 32 3 a ?_;refine az 35 a (aF (ko (k := 0) rfl)) ?_;refine aj 36 2 a ?_;refine az 38 a (eL (by decide)) ?_;refine az 39 a (aF (cp (k := 1) rfl (wL d (n := 5) (by decide)))) ?_;refine bu 40 rfl rfl rfl a (xJ GW aU Cm rfl rfl rfl rfl) ?_;refine aj 41 1 a ?_;refine kv 42 rfl rfl aB (bU (ig fun _ => rfl) (bL bE)) fun a => ?_;refine aK ?_;exact aS (.cons (aN rfl) (.cons (aX N9 Ga rfl rfl) .nil)) ap
theorem a5I (hk : g.clock < 1000000000) (d : g.c.rl.length = 16) n w e (h : u32 n = e) : sQ W0 63 [pV b, iQ n, wV w] (di b (z, g) :: pt z.r (cI g.c.rl g.c.pc) :: R) (.tuple #[]) (di b (z, BG g e w) :: pt z.r (cI (qT g.c.rl e w) (cV g.c.pc)) :: R) := by
 have f : (g.c.rl.set 1 e).length = 16 := by simp [d]
 have a : (qT g.c.rl e w).length = 16 := by simp [qT, d]
 refine am func63 ntmps63 ?_;refine aa (aF (mq fun _ => rfl)) ?_;refine aa (eL (by decide)) ?_;refine aa (aF (aJ (wL d (n := 1) (by decide)))) ?_;refine aa (aF (mq fun _ => rfl)) ?_;refine aa (aF (aJ (lW d))) ?_;refine aa (aF (mq fun _ => rfl)) ?_;refine aa (bD (by rw [d8, h] : IntKind.wrap .u32 n = ((e : Nat) : Int))) ?_;refine aa (eL (by decide)) ?_;refine av (du (by rw [nS d]; decide) (FG d (n := 1) (by omega))) ?_;refine aa (aF (mq fun _ => rfl)) ?_;refine aa (eL (by decide)) ?_;refine av (du (by rw [nS f]; decide) (FG f (n := 2) (by omega))) ?_;refine aa (aF (mq fun _ => rfl)) ?_;refine aa (cY rfl rfl (show IntKind.wrap .u32 ((g.c.pc : Int) + 4) = ((cV g.c.pc : Nat) : Int) from d8 _)) ?_;refine av (du (by rw [nS a]; decide) (pz a)) ?_;refine dr (B := di b (z, yT g e w) :: pt z.r (cI (qT g.c.rl e w) (cV g.c.pc)) :: R) (show Ent _ (di b (z, g) :: pt z.r (cI (qT g.c.rl e w) (cV g.c.pc)) :: R) from inferInstance) ?_;refine aw ?_;refine ah (ao qf (sh W0 _ b z (yT g e w) hk)) ?_;refine aa (bD (by rw [d8, h] : IntKind.wrap .u32 n = ((e : Nat) : Int))) ?_;refine ah (cA tW (si W0 _ b z (yT g e w) a 2 ((dZ g.clock : Nat) : Int) (bP g.c.rl 1) e g.c.pc)) ?_;refine bK (.inr rfl) .nil ?_;exact ap
theorem a5J (H : z.i < 4) p x (h : GMem z.i x) (G : 0 < x.po.length) : bH Tryz.prog W0 54 [pV b, iQ p] (di b (z, g) :: pt z.v (g8 z.ps z.pm d) :: pt z.pm (dN x.pg) :: dE z.pl (z.ps, x.po) :: R)
    (fun v B => v = iQ (wH z.i p x) ∧ B = di b (z, g) :: pt z.v (g8 z.ps z.pm d) :: pt z.pm (dN (mo z.i p x).pg) :: dE z.pl (z.ps, (mo z.i p x).po) :: R) := by
 obtain ⟨E, a⟩ : ∃ b, aW x.pg p = b := ⟨_, rfl⟩
 obtain ⟨u, c⟩ : ∃ b, s8 p = b := ⟨_, rfl⟩
 have o : decide (0 ≤ p ∧ p < 8) = u := c;rw [wH, mo, c, a];refine am func54 ntmps54 ?_;refine ah (aC call127 (MS p)) ?_;rw [o];refine ai (fun w => ?_) fun w => ?_;refine ae ?_;rw [show u = false by simpa using w, Qab (show ¬((false && !E) = true) from QbD)];exact ap;have F : u = true := by simpa using w
 rw [F];obtain ⟨n, rfl, I⟩ := v5 (c.trans F);refine aa (aF (mq fun _ => rfl)) ?_;refine ah (ao sB (qC z.pm x.pg h.pg n)) ?_;rw [a];refine bi fun J => ?_;refine av aB ?_;refine ai (fun y => ?_) fun y => ?_;refine ae ?_;rw [y, Qab (show ¬((true && !true) = true) by decide)];exact ap;have r : E = false := by simpa using y
 rw [r];rw [r] at a;obtain ⟨t, j⟩ : ∃ l, cm x.po z.i = l := ⟨_, rfl⟩
 rw [j];obtain ⟨e, f, A⟩ : ∃ e f, (∀ R, bH Tryz.prog W0 128 [pV z.pl, iQ z.i] (dE z.pl (z.ps, x.po) :: R) (fun v B => v = .tuple #[iQ ((f : Nat) : Int), iQ e] ∧ B = dE z.pl (z.ps, if e = 0 then x.po.set f ((z.i : Int), true) else x.po) :: R)) ∧ (e = 0 ∧ (∃ l, t = f :: l) ∨ e = 2 ∧ t = []) := by
  cases t with
  | nil => exact ⟨2, 0, fun R => by rw [Qab (by decide)]; exact a5E z.pl z.ps x.po z.i (by omega) G h.po.len j, .inr ⟨rfl, rfl⟩⟩
  | cons f l => exact ⟨0, f, fun R => by rw [Qad rfl]; exact JO z.pl z.ps x.po z.i f l (by omega) h.po.len j, .inl ⟨rfl, l, rfl⟩⟩
 obtain ⟨C, s⟩ := A;refine eV [(b, 10, [pV z.pl]), (b, 8, [iQ z.i])] 14 mixed rfl (bU (ig fun _ => rfl) (bU (ig fun _ => rfl) bE)) (fun m => ?_);refine aj 0 3 m ?_;refine az 3 m (aF (ko (k := 0) rfl)) ?_;refine aj 4 3 m ?_;refine az 7 m (aF (ko (k := 1) rfl)) ?_;refine gB 8 rfl rfl (ao call128 (C _)) (bU (ig fun _ => rfl) (bU (ig fun _ => rfl) bE)) fun m => ?_;refine aj 9 5 m ?_;refine aK ?_;refine aD rfl (fun D => ?_) fun D => ?_;obtain ⟨rfl, l, rfl⟩ : e = 0 ∧ ∃ l, t = f :: l := by
  rcases s with q | ⟨rfl, _⟩;exact q;exact absurd D (by decide)
 rw [Qad (show (0 : Int) = 0 from rfl)];refine aw ?_;refine aa (aF (mq fun _ => rfl)) ?_;refine ah (ao GA (Ad z.pm x.pg h.pg n ((f : Int), 3))) ?_;refine ae ?_;rw [Qad (show (true && !false) = true from rfl)];exact ap;refine aw ?_;refine ae ?_;rcases s with ⟨q, _⟩ | ⟨rfl, rfl⟩;exact absurd q D;rw [Qab (show ¬((2 : Int) = 0) by decide), Qad (show (true && !false) = true from rfl)];exact ap
theorem a5K (hi : z.i < 4) p x (h : GMem z.i x) : bH Tryz.prog W0 56 [pV b, iQ p] (di b (z, g) :: pt z.v (g8 z.ps z.pm d) :: pt z.pm (dN x.pg) :: dE z.pl (z.ps, x.po) :: cH z.ps x.fr :: R)
    (fun v B => v = iQ (BH p x) ∧ B = di b (z, g) :: pt z.v (g8 z.ps z.pm d) :: pt z.pm (dN (mp z.i p x).pg) :: dE z.pl (z.ps, (mp z.i p x).po) :: cH z.ps (mp z.i p x).fr :: R) := by
 obtain ⟨th, hth⟩ : ∃ b, aW x.pg p = b := ⟨_, rfl⟩
 obtain ⟨ow, how⟩ : ∃ b, s8 p = b := ⟨_, rfl⟩
 have how2 : decide (0 ≤ p ∧ p < 8) = ow := how;rw [BH, mp, how, hth];refine am func56 ntmps56 ?_;refine ah (aC call127 (MS p)) ?_;rw [how2];refine ai (fun c1 => ?_) fun c1 => ?_;refine ae ?_;rw [show ow = false by simpa using c1, Qab (show ¬((false && th) = true) from QbD)];exact ap;have ho : ow = true := by simpa using c1
 rw [ho];obtain ⟨n, rfl, hn⟩ := v5 (how.trans ho);refine aa (aF (mq fun _ => rfl)) ?_;refine ah (ao sB (qC z.pm x.pg h.pg n)) ?_;rw [hth];refine bi fun b5 => ?_;refine av aB ?_;refine ai (fun c4 => ?_) fun c4 => ?_;refine ae ?_;rw [show th = false by simpa using c4, Qab (show ¬((true && false) = true) by decide)];exact ap;have ht1 : th = true := by simpa using c4
 rw [ht1];rw [ht1] at hth;obtain ⟨f, hf, hff, hfp⟩ := h.at_ hth;have hown := h.own n hn hth;rw [hf, Qaf] at hown;have hgv : nR z.i n x = ⟨x.fr.set f cR, fI x.pg n, x.po.set f ((z.i : Int), false)⟩ := by rw [nR, hf, Qaf]
 rw [Qaf, hgv, Qad (show (true && true) = true from rfl)];refine aa (aF (mq fun _ => rfl)) ?_;refine ah (ao call132 (KX z.pm x.pg h.pg n)) ?_;refine eV [(b, 10, [pV z.pl]), (b5, 0, g7 (bJ x.pg n))] 8 mixed rfl (bU (ig fun _ => rfl) (bL bE)) (fun hS => ?_);refine aj 0 3 hS ?_;refine az 3 hS (aF (ko (k := 0) rfl)) ?_;refine aj 4 1 hS ?_;refine az 5 hS (aF (cp (k := 1) (v := iQ f) rfl (by rw [← hf]; rfl))) ?_;refine gB 6 rfl rfl (cA call133 (MR z.pl z.ps x.po x.fr f z.i hfp hff hown)) (bU (ig fun _ => rfl) (bL bE)) fun hS => ?_;refine aj 7 1 hS ?_;refine aK ?_;exact ae ap
end
theorem a5L {b R} : Ent (pt b (ag ([ek] ++ rh ++ rj) 234) :: R) (dO b [] :: R) :=
  (Ent.cons (fQ (E := 3) (sz := 1) (A := R) (B := R))).trans (g5 (R := R) (C := [_, _]) ⟨none, 0, rfl⟩)
theorem a5M {b R} : Ent (pt b (ag [ek] 265) :: R) (dF b [] :: R) :=
  (Ent.cons (fQ (E := 267) (sz := 2) (A := R) (B := R))).trans (g5 (R := R) (C := [_, _]) ⟨none, 0, rfl⟩)
@[reducible] def jy (z : Rz) (vr vc vv vt tv : Value) (ck : Nat) (h : Bool) : List Value := dI z.k ++ [.int .i64 z.i, z.wv, pV z.pl, vr, vc, pV z.v] ++ FQ ++ [vv, vt, pV z.bx, tv, .int .i64 ck, .bool h, wV 0, wV 0, wV 0, wV 0]
theorem FX : ∀ (vs l : List Value) (i : Nat), (∀ j v, vs[j]? = some v → l[i + j]? = some v) → dk l i vs = l
 | [], l, i, _ => rfl
 | v :: vs, l, i, h => by
  have a : l[i]? = some v := h 0 v rfl;have e : l.set i v = l := Aw a;rw [dk, e];exact FX vs l (i + 1) fun j u b => by
   have := h (j + 1) u b
   rwa [show i + (j + 1) = i + 1 + j by omega] at this
theorem a5N {A Q B i} (h : A.length = i) : dk (A ++ Q ++ B) i Q = A ++ Q ++ B := FX _ _ _ fun j v a => by
 have b : j < Q.length := by
  rcases QaD j Q.length with q | q;exact q;rw [Qbl q] at a; cases a
 rw [QaI, Qbn (by omega), QaB (by omega), show i + j - A.length = j by omega];exact a
theorem a5O {z vr vc vv vt tv ck h} : dk (jy z vr vc vv vt tv ck h) 14 FQ = jy z vr vc vv vt tv ck h := a5N rfl
theorem a5P {z vr vc vv vt tv ck h} : dk (jy z vr vc vv vt tv ck h) 44 [wV 0, wV 0, wV 0, wV 0] = jy z vr vc vv vt tv ck h := FX _ _ _ fun j v a => by
 match j, a with
 | 0, a => exact a
 | 1, a => exact a
 | 2, a => exact a
 | 3, a => exact a
section
variable (W0 : World) (R : List HP) (b : Nat) (z : Rz) (d : Nat)
theorem MU (h : CfK W0 z.k) (O : rt z.k = true) (w : z.i < z.k.gl.length) vr vc vv vt tv ck hd x (P : ImOk x) (Q : 0 < x.fr.length) (p : qI x.pg 0 8) (n : Nat) (G : (dh z.k z.i).2.1 = n) (s : n ≤ (cm x.po z.i).length) a cap ws (S : z.wv = .slice a ws.length cap) (T : ∀ A, cF (aT W0 A) a 1 j6 ws) (U : ∀ y ∈ ws, y < 4294967296) (C : ws.length < 9223372036854775808) (t : ws.length ≤ cap) : sP W0 94 [pV b] (pt b (ag (jy z vr vc vv vt tv ck hd) 101) :: pt z.v (g8 z.ps z.pm d) :: dE z.pl (z.ps, x.po) :: cH z.ps x.fr :: pt z.pm (dN x.pg) :: R) (fun v B => ∃ H I J K, v = iQ 0 ∧ B = pt b (ag (jy z (pV H) (pV I) (pV J) (pV K) tv ck false) 101) :: pt H (cI (List.replicate 16 0) 0) :: pt I (d9 oE z.i) :: dO J [] :: dF K [] :: pt z.v (g8 z.ps z.pm d) :: dE z.pl (z.ps, (dq z.i (bz ws n) n x).po) :: cH z.ps (dq z.i (bz ws n) n x).fr :: pt z.pm (dN (dq z.i (bz ws n) n x).pg) :: R) := by
 have L := lx O;have V := L.g4;have D := L.gs z.i w;rw [G] at D;obtain ⟨W, o, E, q⟩ := (h.ok.g []).at_ w;obtain ⟨u, M⟩ : ∃ u, z.k.gl[z.i] = u := ⟨_, rfl⟩
 have X : dh z.k z.i = u := by simp [dh, List.getD, w, M]
 rw [M] at q;have F : u.2.1 = (n : Int) := by rw [← X]; exact G
 obtain ⟨Y, N⟩ : ∃ Y, dq z.i (bz ws n) n x = Y := ⟨_, rfl⟩
 rw [N];refine am func94 ntmps94 ?_;refine eV [(b, 0, jy z vr vc vv vt tv ck hd), (z.v, 0, _), (W, o + z.i * 3, ix u)] 40 mixed rfl (bL (bL (bU q.weak bE))) (fun l => ?_);refine aj 0 31 l ?_;refine az 31 l (eR mu kQ rfl E rfl rfl w (by first | exact Qac _ | rfl)) ?_;refine aj 32 1 l ?_;refine az 33 l (aF (jB (k := 2) (j := 1) rfl (by rw [← F]; rfl : (ix u)[1]? = some (iQ (n : Int))))) ?_;refine aj 34 3 l ?_;refine az 37 l (aF (cp (k := 0) (v := .slice a ws.length cap) rfl (by rw [← S]; rfl))) ?_;refine bX 38 (cK call183 (Zw z.pl z.ps z.pm z.i n x P Q a cap ws (by omega) (by omega) (by omega) p s (fun A _ => T A) U C t)) ?_; clear l;rintro _ Z ⟨rfl, r⟩;obtain rfl := r.symm;rw [N];refine ⟨(bL (bL (bU q.weak bE))), fun l => ?_⟩;refine aj 39 1 l ?_;refine gC ?_;refine au 8 ?_;refine jR ?_;refine fi (kh rfl) fun c => ?_;refine aw ?_;refine av (iJ (by exact rfl : (jy z vr vc vv vt tv ck hd).set 11 (pV c) = jy z (pV c) vc vv vt tv ck hd)) ?_;refine aG rfl (aC call184 (a0J z.i (by omega))) ?_;rintro _ Z ⟨e, rfl, r⟩;obtain rfl := r.symm;refine aw ?_;refine av (iJ (by exact rfl : (jy z (pV c) vc vv vt tv ck hd).set 12 (pV e) = jy z (pV c) (pV e) vv vt tv ck hd)) ?_;refine aa (xy underlying94 sizeOf93 zeroValue94 rfl) ?_;refine av (iK (Qaa rfl) (a5O)) ?_;refine bA fun f => ?_;refine av (iJ (by exact rfl : (jy z (pV c) (pV e) vv vt tv ck hd).set 38 (pV f) = jy z (pV c) (pV e) (pV f) vt tv ck hd)) ?_;refine bA fun m => ?_;refine av (iJ (by exact rfl : (jy z (pV c) (pV e) (pV f) vt tv ck hd).set 39 (pV m) = jy z (pV c) (pV e) (pV f) (pV m) tv ck hd)) ?_;refine av (iJ (by exact rfl : (jy z (pV c) (pV e) (pV f) (pV m) tv ck hd).set 43 (.bool false) = jy z (pV c) (pV e) (pV f) (pV m) tv ck false)) ?_;refine aa (xy GW aU Cm rfl) ?_;refine av (iK (Qaa rfl) (a5P)) ?_;refine gD (b := c) (o' := cI (List.replicate 16 0) 0) rfl ?_;refine gD (b := e) (o' := d9 oE z.i) rfl ?_;refine gD (b := f) (o' := ag ([ek] ++ rh ++ rj) 234) rfl ?_;refine gD (b := m) (o' := ag [ek] 265) rfl ?_;refine aw ?_;refine ae ?_;refine ⟨_, ⟨c, e, f, m, rfl, rfl⟩, ?_⟩;exact Ent.trans (B := pt m (ag [ek] 265) :: pt f (ag ([ek] ++ rh ++ rj) 234) :: pt b (ag (jy z (pV c) (pV e) (pV f) (pV m) tv ck false) 101) :: pt c (cI (List.replicate 16 0) 0) :: pt e (d9 oE z.i) :: pt z.v (g8 z.ps z.pm d) :: dE z.pl (z.ps, Y.po) :: cH z.ps Y.fr :: pt z.pm (dN Y.pg) :: R) inferInstance (a5M.trans ((Ent.cons a5L).trans inferInstance))
attribute [local irreducible] cN dq
theorem a5Q g (h : CfK W0 z.k) (G : rt z.k = true) (K : z.i < z.k.gl.length) (hk : g.clock < 1000000000) x (u : GMem z.i x) (U : 0 < x.po.length) (n : Nat) (L : (dh z.k z.i).2.1 = n) (H : n ≤ oG z.i x.po) a cap ws (M : z.wv = .slice a ws.length cap) (N : ∀ A, cF (aT W0 A) a 1 j6 ws) (O : ∀ y ∈ ws, y < 4294967296) (C : ws.length < 9223372036854775808) (w : ws.length ≤ cap) : sP W0 58 [pV b] (di b (z, g) :: pt z.v (g8 z.ps z.pm d) :: dE z.pl (z.ps, x.po) :: cH z.ps x.fr :: pt z.pm (dN x.pg) :: R) (fun v B => ∃ f j l m, v = iQ 0 ∧ B = di b ({ z with r := f, c := j, vic := l, tim := m }, sd g) :: pt f (cI (List.replicate 16 0) 0) :: pt j (d9 oE z.i) :: dO l [] :: dF m [] :: pt z.v (g8 z.ps z.pm d) :: dE z.pl (z.ps, (kP z.i n ws x).po) :: cH z.ps (kP z.i n ws x).fr :: pt z.pm (dN (kP z.i n ws x).pg) :: R) := by
 have P := lx G;have Q := P.g4;have e := u.strip (show z.i < 16 by omega) 8 (Qao _);have o := BJ u (show z.i < 16 by omega);have I := FE u (show z.i < 16 by omega);have D : ImOk ⟨(cN z.i 8 x).fr, (cN z.i 8 x).po, (cN z.i 8 x).pg⟩ := ⟨e.fr, e.po, e.pg, e.len⟩
 have S := (yU u (show z.i < 16 by omega) 8 (Qao _)).1;obtain ⟨Y, J⟩ : ∃ y, dq z.i (bz ws n) n ⟨(cN z.i 8 x).fr, (cN z.i 8 x).po, (cN z.i 8 x).pg⟩ = y := ⟨_, rfl⟩
 have E : kP z.i n ws x = wG Y := by rw [kP, J]
 rw [E];refine am func58 ntmps58 ?_;refine eV [(b, 10, [pV z.pl]), (b, 13, [pV z.v]), (z.v, 0, _)] 12 mixed rfl (bU (ig fun _ => rfl) (bU (ig fun _ => rfl) (bL bE))) (fun p => ?_);refine aj 0 3 p ?_;refine az 3 p (aF (ko (k := 0) rfl)) ?_;refine aj 4 3 p ?_;refine az 7 p (aF (ko (k := 1) rfl)) ?_;refine aj 8 3 p ?_;refine bX 11 (cK call137 (a5F z.pl z.ps z.pm z.i x u (by omega))) ?_; clear p;rintro _ T ⟨q, rfl, s⟩;obtain rfl := s.symm;refine ⟨(bU (ig fun _ => rfl) (bU (ig fun _ => rfl) (bL bE))), fun p => ?_⟩;refine aK ?_;refine pB (b := b) fun t F => ?_;refine gD (b := b) (o' := ag (jy z (pV z.r) (pV z.c) (pV z.vic) (pV z.tim) (.slice t g.es.length F) g.clock g.halted) 101) rfl ?_;refine aw ?_;refine aG rfl (vG call94 rfl (MU W0 _ b z d h G K (pV z.r) (pV z.c) (pV z.vic) (pV z.tim) (.slice t g.es.length F) g.clock g.halted ⟨(cN z.i 8 x).fr, (cN z.i 8 x).po, (cN z.i 8 x).pg⟩ D (by have := e.len; show 0 < (cN z.i 8 x).fr.length; omega) o n L (by show n ≤ (cm (cN z.i 8 x).po z.i).length; omega) a cap ws M N O C w)) ?_;rintro _ T ⟨f, j, l, m, rfl, s⟩;obtain rfl := s.symm;rw [J];refine aw ?_;refine gD (b := b) (o' := rn { z with r := f, c := j, vic := l, tim := m } (s9 g) (.slice t g.es.length F)) rfl ?_;refine dr (B := di b ({ z with r := f, c := j, vic := l, tim := m }, s9 g) :: pt f (cI (List.replicate 16 0) 0) :: pt j (d9 oE z.i) :: dO l [] :: dF m [] :: pt z.v (g8 z.ps z.pm d) :: dE z.pl (z.ps, Y.po) :: cH z.ps Y.fr :: pt z.pm (dN Y.pg) :: R) (eD rfl rfl) ?_;refine aw ?_;refine ah (ao qf (sh W0 _ b { z with r := f, c := j, vic := l, tim := m } (s9 g) hk)) ?_;refine ah (cA tW (si W0 _ b { z with r := f, c := j, vic := l, tim := m } (s9 g) (by simp) 5 ((dZ g.clock : Nat) : Int) 0 0 0)) ?_;refine ae ?_;refine ⟨_, ⟨f, j, l, m, rfl, rfl⟩, ?_⟩;unfold wG;exact IO
end
theorem a5R {b z R} : Ent (pt b (rn z g0 ek) :: R) (di b (z, g0) :: R) :=
  (Ent.cons (fQ (E := 208) (sz := 21) (A := R) (B := R))).trans (g5 (R := R) (C := [_, _]) ⟨none, 0, rfl⟩)
attribute [local irreducible] dq
theorem a5S c (h : CfK W0 c) (Q : rt c = true) i (hi : i < c.gl.length) (S : ∀ k, k < c.nl.length → (nf c k).1 ≠ (nf c k).2) qs pb fr po (hF : cC fr) (hP : PoOk po) (hl : po.length = fr.length) (h0 : 0 < fr.length) (x2 : (dh c i).2.1 ≤ ((cm po i).length)) a cap ws (hs : ∀ A, cF (aT W0 A) a 1 j6 ws) (hb : ∀ y ∈ ws, y < 4294967296) (hn : ws.length < 9223372036854775808) (K : ws.length ≤ cap) : sP W0 25 [.agg (dI c).toArray, iQ i, pV qs, pV pb, .slice a ws.length cap] (dE pb (qs, po) :: cH qs fr :: R) (fun v B => ∃ f z, v = .tuple #[pV f, iQ 0] ∧ z.k = c ∧ z.i = i ∧ z.ps = qs ∧ z.pl = pb ∧ z.wv = .slice a ws.length cap ∧ B = di f (z, g0) :: pt z.r (cI (List.replicate 16 0) 0) :: pt z.c (d9 oE i) :: dO z.vic [] :: dF z.tim [] :: pt z.v (g8 qs z.pm 0) :: pt z.pm (dN (ka c i ws fr po).pg) :: dE pb (qs, (ka c i ws fr po).po) :: cH qs (ka c i ws fr po).fr :: pt z.bx (ag [ek] 114) :: R) := by
 have T := lx Q;have x3 := T.g4;have x4 := T.nn;have x5 := T.gs i hi;obtain ⟨n, p⟩ : ∃ n : Nat, (dh c i).2.1 = (n : Int) := ⟨(dh c i).2.1.toNat, by omega⟩
 have U : (dh c i).2.1.toNat = n := by rw [p]; rfl
 have E : ImOk (laid c i ws fr po) := uE (by omega) ⟨hF, hP, yq, hl⟩;obtain ⟨Y, V⟩ : ∃ Y, laid c i ws fr po = Y := ⟨_, rfl⟩
 have W : dq i (bz ws n) n ⟨fr, po, jI⟩ = Y := by rw [← V, laid, U]
 have hM : ka c i ws fr po = ⟨Y.fr, fH c i c.nl.length Y.pg, Y.po⟩ := by rw [ka, V]
 rw [hM];rw [V] at E;refine am func25 ntmps25 ?_;refine bA fun J => ?_;refine ah (aC GB (AO c h.ok)) ?_;rw [Q];refine cv (fun F => ?_) fun F => ?_;exact absurd F (by decide);refine dj rfl rfl rfl (fun L => ?_) fun L => ?_;omega;refine aw ?_;refine aD rfl (fun c1 => ?_) fun c1 => ?_;omega;refine aw ?_;refine uw (qs := qs) fun a2 c2 vs hv => ?_;refine aw ?_;refine dj rfl rfl rfl (fun G => ?_) fun G => ?_;cases G;refine aw ?_;refine dj rfl rfl rfl (fun H => ?_) fun H => ?_;omega;refine aw ?_;refine aD rfl (fun c3 => ?_) fun c3 => ?_;cases c3;refine au 3 ?_;refine dr (a0L hv) ?_;refine aY (ac rfl (ql G3 vg rfl rfl) ?_);refine ac rfl (aM rfl) (ac rfl (aM rfl) (ac rfl (aM rfl) (ac rfl (fB a70 zeroValue114 (aL G6 fA) fz) ?_)));refine aG rfl (kh rfl) ?_;rintro _ _ ⟨j, rfl, rfl⟩;refine aa (a0K rfl rfl rfl rfl rfl rfl) ?_;refine bA fun f => ?_;refine bA fun d => ?_;refine bA fun l => ?_;refine av eg ?_;refine gD (b := d) (o' := dN jI) rfl ?_;refine gD (b := l) (o' := g8 qs d 0) rfl ?_;refine gD (b := j) (o' := ag [ek] 114) rfl ?_;refine gD (b := f) (o' := ag (jy ⟨0, 0, l, qs, d, pb, 0, 0, j, .slice a ws.length cap, i, c⟩ (.pointer none) (.pointer none) (.pointer none) (.pointer none) ek 0 false) 101) rfl ?_;refine aw ?_;refine aG rfl (vG call94 rfl (MU W0 _ f ⟨0, 0, l, qs, d, pb, 0, 0, j, .slice a ws.length cap, i, c⟩ 0 h Q hi (.pointer none) (.pointer none) (.pointer none) (.pointer none) ek 0 false ⟨fr, po, jI⟩ ⟨hF, hP, yq, hl⟩ h0 EE n p (by show n ≤ (cm po i).length; omega) a cap ws rfl hs hb hn K)) ?_;rintro _ B_ ⟨s, t, u, w, rfl, X⟩;obtain rfl := X.symm;rw [W];refine au 10 ?_;refine jR ?_;refine gU (fun k : Nat => k ≤ c.nl.length) (fun k => [(1, iQ i), (5, pV J), (12, pV f), (14, iQ k)]) (fun k => pt J (ia c) :: pt f (ag (jy ⟨0, 0, l, qs, d, pb, 0, 0, j, .slice a ws.length cap, i, c⟩ (pV s) (pV t) (pV u) (pV w) ek 0 false) 101) :: pt s (cI (List.replicate 16 0) 0) :: pt t (d9 oE i) :: dO u [] :: dF w [] :: pt l (g8 qs d 0) :: pt d (dN (fH c i k Y.pg)) :: dE pb (qs, Y.po) :: cH qs Y.fr :: pt j (ag [ek] 114) :: R) (fun k => c.nl.length - k) 0 ?_ ?_ ?_ ?_;exact QaK _
 · repeat (first | exact bC | refine bq rfl ?_)
 rw [show fH c i 0 Y.pg = Y.pg from rfl];exact IO;intro k hk;have I := yp (c := c) (i := i) E.pg k;refine aw ?_;refine aD rfl (fun Z => ?_) fun Z => ?_;refine au 2 ?_;refine dw (fun C : List Pl => C = fH c i (k + 1) Y.pg) (fun _ => [(1, iQ i), (5, pV J), (12, pV f), (14, iQ k)]) (fun C => pt J (ia c) :: pt f (ag (jy ⟨0, 0, l, qs, d, pb, 0, 0, j, .slice a ws.length cap, i, c⟩ (pV s) (pV t) (pV u) (pV w) ek 0 false) 101) :: pt s (cI (List.replicate 16 0) 0) :: pt t (d9 oE i) :: dO u [] :: dF w [] :: pt l (g8 qs d 0) :: pt d (dN C) :: dE pb (qs, Y.po) :: cH qs Y.fr :: pt j (ag [ek] 114) :: R) ?_ ?_;refine au 2 ?_;have m : k < c.nl.length := by omega
 obtain ⟨g, o, M, hc⟩ := (h.ok.n []).at_ m;obtain ⟨x, hx⟩ : ∃ x, c.nl[k] = x := ⟨_, rfl⟩
 have hA : nf c k = x := by simp [nf, List.getD, m, hx]
 have p := S k m;have D : fH c i (k + 1) Y.pg = if mf (nf c k) i = 0 then fH c i k Y.pg else eA (fH c i k Y.pg) ((8 + k : Nat) : Int) (md c k, mf (nf c k) i) := rfl;rw [hA] at p D;rw [hx] at hc;refine aw ?_;refine ew 3 (aC call95 (a0b c h.ok Q k (by omega) (by omega))) ?_;refine dw (fun e : List Pl => Pgs e ∧ ((i : Int) = x.1 ∧ e = eA (fH c i k Y.pg) ((8 + k : Nat) : Int) (md c k, 3) ∨ (i : Int) ≠ x.1 ∧ e = fH c i k Y.pg)) (fun _ => [(1, iQ i), (5, pV J), (12, pV f), (14, iQ k), (15, iQ (md c k))]) (fun e => pt J (ia c) :: pt f (ag (jy ⟨0, 0, l, qs, d, pb, 0, 0, j, .slice a ws.length cap, i, c⟩ (pV s) (pV t) (pV u) (pV w) ek 0 false) 101) :: pt s (cI (List.replicate 16 0) 0) :: pt t (d9 oE i) :: dO u [] :: dF w [] :: pt l (g8 qs d 0) :: pt d (dN e) :: dE pb (qs, Y.po) :: cH qs Y.fr :: pt j (ag [ek] 114) :: R) ?_ ?_;refine au 5 ?_;refine aa (eR zn zh rfl M rfl rfl m (by first | exact Qac _ | rfl)) ?_;refine aa (aF (hc.weak 0 _ rfl)) ?_;refine ai (fun x0 => ?_) fun x0 => ?_;refine aa (ee (8 + k)) ?_;refine ah (ao GA (Ad d (fH c i k Y.pg) I (8 + k : Nat) (md c k, 3))) ?_;exact bY (eA (fH c i k Y.pg) ((8 + k : Nat) : Int) (md c k, 3)) (⟨vN I, .inl ⟨by omega, rfl⟩⟩);exact bY (fH c i k Y.pg) (⟨I, .inr ⟨by omega, rfl⟩⟩);intro e ⟨N, O⟩;refine aw ?_;refine aa (eR zn zh rfl M rfl rfl m (by first | exact Qac _ | rfl)) ?_;refine aa (aF (hc.weak 1 _ rfl)) ?_;refine ai (fun x1 => ?_) fun x1 => ?_;refine aa (ee (8 + k)) ?_;refine ah (ao GA (Ad d e N (8 + k : Nat) (md c k, 1))) ?_;refine bY (eA e ((8 + k : Nat) : Int) (md c k, 1)) ?_;rcases O with ⟨q, _⟩ | ⟨q, rfl⟩;omega;rw [D, mf, Qab q, Qad (show (i : Int) = x.2 by omega), Qab (show ¬((1 : Int) = 0) by decide)];refine bY e ?_;rcases O with ⟨q, rfl⟩ | ⟨q, rfl⟩;rw [D, mf, Qad q, Qab (show ¬((3 : Int) = 0) by decide)];rw [D, mf, Qab q, Qab (show ¬((i : Int) = x.2) by omega), Qad (show (0 : Int) = 0 from rfl)];intro C P;subst P;refine aw ?_;refine aa co ?_;exact bM (k + 1) (by omega);refine aw ?_;refine aA ?_;obtain rfl : k = c.nl.length := by omega
 refine ⟨_, ⟨f, ⟨s, t, l, qs, d, pb, u, w, j, .slice a ws.length cap, i, c⟩, rfl, rfl, rfl, rfl, rfl, rfl, rfl⟩, ?_⟩;exact Ent.trans (B := pt f (rn ⟨s, t, l, qs, d, pb, u, w, j, .slice a ws.length cap, i, c⟩ g0 ek) :: pt s (cI (List.replicate 16 0) 0) :: pt t (d9 oE i) :: dO u [] :: dF w [] :: pt l (g8 qs d 0) :: pt d (dN (fH c i c.nl.length Y.pg)) :: dE pb (qs, Y.po) :: cH qs Y.fr :: pt j (ag [ek] 114) :: R) inferInstance a5R
end
section
open Go.RowKit
set_option maxRecDepth 20000
set_option synthInstance.maxSize 1000
set_option synthInstance.maxHeartbeats 400000
abbrev rA (b : Nat) (z : Rz) (g : Gu) (L : List Nat) (T : List (Int × Int)) (d : Nat) (x : Mm) (R : List HP) : List HP := di b (z, g) :: pt z.r (cI g.c.rl g.c.pc) :: pt z.c (d9 g.c.cs z.i) :: dO z.vic L :: dF z.tim T :: pt z.v (g8 z.ps z.pm d) :: cH z.ps x.fr :: pt z.pm (dN x.pg) :: dE z.pl (z.ps, x.po) :: R
abbrev a5T (gb : Nat) (z : Gz) (g : Gu) (x : Mm) (R : List HP) : List HP := gA gb z g x (cW z.pb (z.ps, x.po) :: bB z.ps x.fr :: R)
theorem MV c (h : CfK W0 c) (hr : rt c = true) i (hi : i < c.gl.length) a cap ws (hs : ∀ A, cF (aT W0 A) a 1 j6 ws) (hb : ∀ y ∈ ws, y < 4294967296) (hn : ws.length < 9223372036854775808) (hcap : ws.length ≤ cap) : sP W0 6 [.agg (dI c).toArray, iQ i, .slice a ws.length cap] R (fun v B => ∃ gb z wg wb zr, v = .tuple #[pV gb, pV wb, iQ 0, iQ 0] ∧ z.c = c ∧ z.i = i ∧ z.wv = .slice (some ⟨wg, 0, none⟩) (bz ws 8).length (bz ws 8).length ∧ zr.k = c ∧ zr.i = i ∧ zr.wv = .slice a ws.length cap ∧ B = a5T gb z g0 (ka c i ws (List.replicate (cM c) cR) (eH c (cM c))) (rA wb zr g0 [] [] 0 (ka c i ws (List.replicate (cM c) cR) (eH c (cM c))) (pt zr.bx (ag [ek] 114) :: pt z.bx mZ :: pt wg (ag ((bz ws 8).map wV) 46) :: R))) := by
 have p := lx hr;have O := p.nd;have P := p.g4;have Q : 0 < cM c ∧ cM c ≤ 32 := by rw [cM]; omega
 have d : (List.replicate (cM c) cR).length = cM c := by simp
 have C : we c = cM c := by rw [we, Qad hr]
 have S := FF hr hi ws;have q : (dh c i).2.1 ≤ ((cm (eH c (cM c)) i).length : Int) := by
  have Y := Ev p hi;have Z := (p.gs i hi).2.2.1;omega
 refine am func6 ntmps6 ?_;refine bA fun x => ?_;refine ah (aC call16 (ZZ c h.ok)) ?_;rw [C];refine aa (vX rfl rfl (show _ = ((cM c : Nat) : Int) by split <;> omega)) ?_;refine aG rfl (aC call17 (WE (cM c) (by omega))) ?_;rintro _ t ⟨m, rfl, g⟩;obtain rfl := g.symm;refine aw ?_;refine aG rfl (aC call18 (WT (cM c) (by omega))) ?_;rintro _ t ⟨n, rfl, g⟩;obtain rfl := g.symm;refine aw ?_;refine aG rfl (ao call19 (Yf m (List.replicate (cM c) cR) (by rw [d]; omega) (by rw [d]; omega))) ?_;rintro _ t ⟨r, rfl, g⟩;obtain rfl := g.symm;rw [d, ← JS];refine aw ?_;refine aG rfl (ao call20 (Zn n (List.replicate (cM c) cR) (by rw [d]; omega) (by rw [d]; omega))) ?_;rintro _ t ⟨s, rfl, g⟩;obtain rfl := g.symm;rw [d, ← JS];refine aw ?_;refine d7 (fun f : Nat => f ≤ cM c) (fun f => [(1, iQ i), (2, .slice a ws.length cap), (3, pV x), (10, iQ (cM c : Nat)), (11, pV m), (13, pV n), (15, pV r), (17, pV s), (19, iQ f)]) (fun f => pt x (ia c) :: cW r (m, eH c f) :: bB m (List.replicate (cM c) cR) :: dE s (n, eH c f) :: cH n (List.replicate (cM c) cR) :: R) (fun f => cM c - f) 0 ?_ ?_;exact QaK _;intro f hf;refine aw ?_;refine aD rfl (fun T => ?_) fun T => ?_;refine au 2 ?_;refine dw (fun _ : Unit => f < cM c) (fun _ => [(1, iQ i), (2, .slice a ws.length cap), (3, pV x), (10, iQ (cM c : Nat)), (11, pV m), (13, pV n), (15, pV r), (17, pV s), (19, iQ f)]) (fun _ => pt x (ia c) :: cW r (m, eH c (f + 1)) :: bB m (List.replicate (cM c) cR) :: dE s (n, eH c (f + 1)) :: cH n (List.replicate (cM c) cR) :: R) ?_ ?_;refine au 2 ?_;have b : f < cM c := by omega
 have U := EG (i := (lw c f).getD 0) hr b;have D := a0M hr b;refine aw ?_;refine ah (aC call21 (a0a c h f hr (by rw [cM] at b; omega))) ?_;refine bi fun V => ?_;refine av aB ?_;refine aD rfl (fun l => ?_) fun l => ?_;obtain ⟨j, E⟩ : ∃ j, lw c f = some j := by
  cases e : lw c f with
  | some j => exact ⟨j, rfl⟩
  | none => have := D e; rw [this] at l; exact absurd l (by decide)
 have u := EG hr b E;have W := ((AP p).1 E).1;have o := ZT b E;refine au 5 ?_;refine ac rfl (aF (aJ (by rw [u]; rfl : (Ew (td c f))[1]? = some (iQ (j : Int))))) ?_;refine ku (cA call22 (Yg r m (eH c f) (List.replicate (cM c) cR) f j (by rw [pT]; exact b) (by rw [d]; exact b) (by omega) (AQ p f) (by rw [wc b, Qab (by omega)]))) ?_;rw [Kc, ← o];refine au 6 ?_;refine ac rfl (aF (aJ (by rw [u]; rfl : (Ew (td c f))[1]? = some (iQ (j : Int))))) ?_;refine ah (cA call23 (Zp s n (eH c f) (List.replicate (cM c) cR) f j (by rw [pT]; exact b) (by rw [d]; exact b) (by omega) (by rw [wc b, Qab (by omega)]))) ?_;rw [Kc, ← o];exact bY () (b);have o : eH c (f + 1) = eH c f := by
  cases e : lw c f with
  | none => exact ZU e
  | some j => have := EG hr b e; rw [this] at l; exact absurd rfl l
 refine aw ?_;refine bY () ?_ (he := ?_);exact b;rw [o];exact IO;intro _ b;refine aw ?_;refine aa co ?_;exact bM (f + 1) (by omega);refine aw ?_;obtain rfl : f = cM c := by omega
 refine aG rfl (cA call24 (a4P W0 _ c h hr i hi m r (List.replicate (cM c) cR) (eH c (cM c)) (cC.new _) (AQ p _) (by rw [pT, d]) (by rw [d]; omega) q a cap ws hs hb hn S)) ?_;rintro _ t ⟨gb, z, wg, rfl, F, G, H, I, J, g⟩;obtain rfl := g.symm;obtain rfl := H;obtain rfl := I;refine aw ?_;refine aG rfl (cA call25 (a5S c h hr i hi (fun k X => a4R hr X) n s (List.replicate (cM c) cR) (eH c (cM c)) (cC.new _) (AQ p _) (by rw [pT, d]) (by rw [d]; omega) q a cap ws hs hb hn hcap)) ?_;rintro _ t ⟨wb, zr, rfl, K, w, L, M, N, g⟩;obtain rfl := g.symm;obtain rfl := L;obtain rfl := M;refine aw ?_;refine aS (.cons (aN rfl) (.cons (aN rfl) (.cons (aN rfl) (.cons (aN rfl) .nil)))) ?_;refine ⟨_, ⟨gb, z, wg, wb, zr, rfl, F, G, J, K, w, N, rfl⟩, ?_⟩;unfold rA;rw [w];exact IO
end
section
open Go.RowKit
set_option maxRecDepth 20000
set_option synthInstance.maxSize 1000
set_option synthInstance.maxHeartbeats 400000
theorem a5U W0 R c (h : CfK W0 c) (g : rt c = true) i (j : i < c.gl.length) a cap ws (k : ∀ A, cF (aT W0 A) a 1 j6 ws) (l : ∀ y ∈ ws, y < 4294967296) (m : ws.length < 9223372036854775808) (b : ws.length ≤ cap) :
    bH Tryz.prog W0 6 [.agg (dI c).toArray, .int .i64 i, .slice a ws.length cap] R
      (fun v B => ∃ d z e f, v = .tuple #[pV d, pV f, .int .i64 0, .int .i64 0] ∧ z.c = c ∧ z.i = i ∧ z.wv = .slice (some ⟨e, 0, none⟩) (bz ws 8).length (bz ws 8).length ∧
        B = gA d z g0 (ka c i ws (List.replicate (cM c) cR) (eH c (cM c))) (pt z.bx mZ :: pt e (ag ((bz ws 8).map wV) 46) :: cW z.pb (z.ps, (ka c i ws (List.replicate (cM c) cR) (eH c (cM c))).po) :: bB z.ps (ka c i ws (List.replicate (cM c) cR) (eH c (cM c))).fr :: R)) :=
  iH (MV c h g i j a cap ws k l m b) fun v B n => by
 obtain ⟨d, z, e, f, r, rfl, o, p, q, _, _, _, rfl⟩ := n;exact ⟨_, ⟨d, z, e, f, rfl, o, p, q, rfl⟩, IO⟩
end
section
open Go.RowKit
theorem z6 {F n P fn tmps R R'} (hR : ∀ e w, R e w → R' e w) :
    ∀ (ds : List Deferred) (u : FrameMode) (w : World), LeavesInM F n P fn tmps R ds u w → LeavesInM F n P fn tmps R' ds u w
 | [], .returning, w, h => by
  obtain ⟨v, h1, h2⟩ := (show ∃ v, (results fn tmps).run P w = .ok v w ∧ R (.returned v) w from h)
  exact ⟨v, h1, hR _ _ h2⟩
 | [], .panicking c, w, h => hR _ _ h
 | [], .run, w, h => h
 | d :: ds, u, w, h => by
  obtain ⟨hu, h⟩ := h;refine ⟨hu, ?_⟩;rcases h with ⟨r, w', h1, h2, h3⟩ | ⟨h0, fv, cap, f, args, h1, h2, h3, h4⟩;exact .inl ⟨r, w', h1, h2, z6 hR ds u w' h3⟩;refine .inr ⟨h0, fv, cap, f, args, h1, h2, h3, h4.mono ?_⟩;intro e u' w' he
  cases e with
  | returned v => exact z6 hR ds _ _ he
  | panicked c => exact z6 hR ds _ _ he
  | outgrown => exact hR _ _ he
theorem a5V {P} {o : Oper} {a K K' Q Q'} (hk : ∀ a w, K a w → K' a w) (hq : ∀ e a w, Q e a w → Q' e a w) :
    ∀ {r : Result Next}, o.upon P a K Q r → o.upon P a K' Q' r
 | .ok (.value v) w, h => hk _ _ h
 | .ok .skip w, h => hk _ _ h
 | .ok (.defer d) w, h => hk _ _ h
 | .ok (.enter f args) w, h => Calls.mono (show Calls P f args w _ from h) (by
     intro e w' he
     cases e with
     | returned v => exact hk _ _ he
     | panicked c => exact hq _ _ _ he
     | outgrown => exact Qdc he fun a h => Qdc h fun w h => ⟨a, w, hq _ _ _ h⟩)
 | .ok (.row row args) w, h => Rows.mono (show Rows P row args w _ from h) (fun v w' he => hk _ _ he)
 | .halt (.panic v) w, h => hq _ _ _ h
theorem a5W {rd P} {o : Oper} {a K K' Q Q'} (hk : ∀ a w, K a w → K' a w) (hq : ∀ e a w, Q e a w → Q' e a w) :
    ∀ {r : Result Next}, o.uponIn (FW rd) 0 P a K Q r → o.uponIn (FW rd) 0 P a K' Q' r
 | .ok (.value v) w, h => hk _ _ h
 | .ok .skip w, h => hk _ _ h
 | .ok (.defer d) w, h => hk _ _ h
 | .ok (.enter f args) w, h => ⟨h.1, CallsIn.mono h.2 (by
     intro e w' he
     cases e with
     | returned v => exact hk _ _ he
     | panicked c => exact hq _ _ _ he
     | outgrown => exact Qdc he fun a h => Qdc h fun w h => ⟨a, w, hq _ _ _ h⟩)⟩
 | .ok (.row row args) w, h => ⟨h.1, RowsIn.mono h.2 (fun v w' he => hk _ _ he)⟩
 | .ok (.round l f tmps assign body) w, h => ⟨h.1, RoundIn.mono h.2 (by
     intro e w' he
     cases e with
     | returned v => exact hk _ _ he
     | panicked c => exact hq _ _ _ he
     | outgrown => exact Qdc he fun a h => Qdc h fun w h => ⟨a, w, hq _ _ _ h⟩)⟩
 | .halt (.panic v) w, h => hq _ _ _ h
theorem C2 {rd P ops Q Q'} (b : ∀ e a w, Q e a w → Q' e a w) : ∀ (l : List Oper) (a : Act) (w : World), cn rd P ops Q l a w → cn rd P ops Q' l a w
 | [], a, w, h => b _ _ _ h
 | o :: l, a, w, h => by
  simp only [cn] at h ⊢;split at h
  rename_i c
  rw [Qad c];rcases h with h | h;exact .inl (a5V (fun a w k => C2 b l a w k) b h);exact .inr ⟨h.1, a5W (fun a w k => C2 b l a w k) b h.2⟩
  rename_i c
  rw [Qab c];exact C2 b l _ _ h
theorem a5X {P W0 w fn Post Post' A} (hO : Own W0 w A) (hP : ∀ v B, Post' v B → ∃ B', Post v B' ∧ Ent (B ++ A) B') :
    ∀ (ex : Exit) (a : Act) (w' : World), lM P w fn Post' ex a w' → lM P W0 fn Post ex a w' := by
 have hR : ∀ (e : Ending) (w' : World), (∃ v B, e = .returned v ∧ Post' v B ∧ Own w w' B) → ∃ v B, e = .returned v ∧ Post v B ∧ Own W0 w' B := by
  rintro e w' ⟨v, B, rfl, hp, hO'⟩;obtain ⟨B', h1, h2⟩ := hP v B hp;exact ⟨v, B', rfl, h1, (hO.step hO').ent h2⟩
 intro ex a w' h
 cases ex with
 | normal => exact z6 hR _ _ _ h
 | ret => exact z6 hR _ _ _ h
 | exit id => exact h
 | goto l => exact h
 | panic c => exact h
 | outgrown => exact h
theorem MW {P W0 N ops l} {y : Code} {fn Post} Post' {e A}
    (hP : ∀ v B, Post' v B → ∃ B', Post v B' ∧ Ent (B ++ A) B') (h : ∀ W, Own W0 W A → ax W N (cn none P ops (Exit.then (y.wpR none P (lM P W fn Post')) (lM P W fn Post')) l) e []) :
    ax W0 N (cn none P ops (Exit.then (y.wpR none P (lM P W0 fn Post)) (lM P W0 fn Post)) l) e A := by
 intro a w hF hO;have hm := a5X (P := P) (fn := fn) hO hP;refine C2 ?_ _ _ _ (h w hO a w hF (Own.refl w));intro ex a' w' hq
 cases ex with
 | normal => exact Code.wpIn_mono hm hq
 | ret => exact hm .ret a' w' hq
 | exit id => exact hm (.exit id) a' w' hq
 | goto l => exact hm (.goto l) a' w' hq
 | panic c => exact hm (.panic c) a' w' hq
 | outgrown => exact hm .outgrown a' w' hq
theorem GOk.more {z g g' N} (h : GOk z g N) (a : CpOk g'.c) (b : g'.clock ≤ g.clock + 1) (d : g'.bud ≤ g.bud + 6) (e : g'.ln ≤ g.ln + 2) (f : g'.tm.now ≤ g.tm.now + 1) : GOk z g' (N + 1) :=
  ⟨a, h.i, by have := h.clk; omega, by have := h.bud; omega, by have := h.ln; omega, by have := h.tn; omega⟩
theorem a5Y {rl e w} (h : RlOk rl) (he : e < 4294967296) (b : w < 4294967296) : RlOk (qT rl e w) := by
 have a := (h.set 1 e he).set 2 w b;rw [je, je, Qab (by decide), Qab (by decide)] at a;exact a
theorem z8 {g a b} (h : CpOk g.c) (d : a < 4294967296) (e : b < 4294967296) : CpOk (fX g a b).2.c := by
 unfold fX;split;exact h;exact h.enter d e
theorem sj g a b : (fX g a b).2.bud = g.bud ∧ (fX g a b).2.clock = g.clock := by unfold fX; split <;> exact ⟨rfl, rfl⟩
theorem a5Z {g fr pg e} (h : CpOk g.c) (he : EfOk e) (a : cC fr) : CpOk (eJ g fr pg e).1.2.c ∧ cC (eJ g fr pg e).2 ∧ (eJ g fr pg e).2.length = fr.length ∧ (eJ g fr pg e).1.2.bud ≤ g.bud + 3 ∧ (eJ g fr pg e).1.2.clock = g.clock := by
 unfold eJ
 split
 unfold pw
 split
 exact ⟨z8 h (dU _) he.addr, a, rfl, by rw [(sj _ _ _).1]; exact Qao _, (sj _ _ _).2⟩
 refine ⟨⟨h.r.set _ _ ?_, he.pc, h.cs⟩, a, rfl, Qao _, rfl⟩
 split
 exact a4j (uY a)
 exact uY a
 split
 unfold px
 split
 exact ⟨z8 h (dU _) he.addr, Mc a, Md, by rw [(sj _ _ _).1]; exact Qao _, (sj _ _ _).2⟩
 exact ⟨⟨h.r, he.pc, h.cs⟩, Mc a, Md, Qao _, rfl⟩
 split
 exact ⟨z8 h (by have := he.cause; omega) he.tval, a, rfl, by rw [(sj _ _ _).1]; omega, (sj _ _ _).2⟩
 split; · exact ⟨⟨h.r, he.pc, h.cs⟩, a, rfl, by show g.bud ≤ _; omega, rfl⟩
 split; · exact ⟨⟨h.r, he.pc, h.cs⟩, a, rfl, by show g.bud ≤ _; omega, rfl⟩
 split; · exact ⟨h, a, rfl, by show g.bud ≤ _; omega, rfl⟩
 exact ⟨h, a, rfl, by show g.bud ≤ _; omega, rfl⟩
theorem a50 {i g fr pg} (h : CpOk g.c) (e : i < 4) (a : cC fr) : CpOk (jx i g fr pg).1.2.c ∧ cC (jx i g fr pg).2 ∧ (jx i g fr pg).2.length = fr.length ∧ (jx i g fr pg).1.2.bud ≤ g.bud + 6 ∧ (jx i g fr pg).1.2.clock = g.clock := by
 unfold jx;split;exact ⟨z8 h (dU _) h.pc, a, rfl, by rw [(sj _ _ _).1]; show g.bud + 3 ≤ _; omega, (sj _ _ _).2⟩;split;grind [z8, uY, sj];have b := DY (id := i) (clock := dZ g.clock) (i := fF (pr g fr pg g.c.pc 4 0)) h (DN _).2.1 e;obtain ⟨f, j, k, d, l⟩ := a5Z (g := dB (bZ g) (jU i (dZ g.clock) (fF (pr g fr pg g.c.pc 4 0)) g.c).2) (fr := fr) (pg := pg) b.2 b.1 a;exact ⟨f, j, k, by have d : _ ≤ g.bud + 3 + 3 := d; omega, l⟩
theorem a51 {g} (h : CpOk g.c) : CpOk (fY g).2.c ∧ (fY g).2.clock = g.clock ∧ (fY g).2.bud = g.bud ∧ (fY g).2.ln = g.ln ∧ (fY g).2.tm = g.tm := by
 unfold fY;split
 cases q : jK g.ls with
 | none => exact ⟨h, rfl, rfl, rfl, rfl⟩
 | some n =>
  have := (yK q).1;exact ⟨h.enter (by omega) (by decide), rfl, rfl, rfl, rfl⟩
 grind
theorem a52 g : (iX g).ln ≤ g.ln + 1 := by
 grind [Ft, k8]
theorem C3 {i g fr pg} (h : CpOk g.c) (f : i < 4) (b : cC fr) : CpOk (fk i g fr pg).1.2.c ∧ cC (fk i g fr pg).2 ∧ (fk i g fr pg).2.length = fr.length ∧ (fk i g fr pg).1.2.bud ≤ g.bud + 6 ∧ (fk i g fr pg).1.2.clock = g.clock + 1 ∧ (fk i g fr pg).1.2.ln ≤ g.ln + 1 ∧ (fk i g fr pg).1.2.tm.now = g.tm.now := by
 have d := a52 (j7 g)
 unfold fk
 split; · exact ⟨h, b, rfl, by show g.bud ≤ _; omega, rfl, by show g.ln ≤ _; omega, rfl⟩
 have a := a51 (g := iX (j7 g)) h
 split
 exact ⟨a.1, b, rfl, by rw [a.2.2.1]; show g.bud ≤ _; omega, by rw [a.2.1], by rw [a.2.2.2.1]; exact d, by rw [a.2.2.2.2]; rfl⟩
 obtain ⟨j, k, l, e, m⟩ := a50 (i := i) (fr := fr) (pg := pg) a.1 f b
 obtain ⟨p, n, o⟩ := Fu i (fY (iX (j7 g))).2 fr pg
 exact ⟨j, k, l, by rw [a.2.2.1] at e; exact e, by rw [m, a.2.1], by rw [n, a.2.2.2.1]; exact d, by rw [o, a.2.2.2.2]; rfl⟩
theorem GMem.saved {i fr fr' pg po} (h : GMem i ⟨fr, pg, po⟩) (l : cC fr') (c : fr'.length = fr.length) (m : ∀ f, f < fr.length → (∀ t, aW pg t = true → (bJ pg t).1 ≠ f) → fr'.getD f [] = fr.getD f []) : GMem i ⟨fr', pg, po⟩ := by
 refine ⟨l, h.po, h.pg, h.len.trans c.symm, by show PlOk fr'.length pg; rw [c]; exact h.pl, h.own, h.all, h.far, fun f d e => ?_⟩;have a : f < fr.length := by have := h.len; dsimp only at this d; omega
 dsimp only;rw [m f a fun t q g => ?_];exact h.nul f d e;have j := q;simp only [aW, Qar] at j;obtain ⟨k, rfl, n⟩ := kT j.1;rcases QaD k 8 with b | b;have := h.own k b q;dsimp only at this e;rw [g, Qaf, e] at this;have := (Qdb this).2; cases this;have := h.far k b q;dsimp only at this e;rw [g, Qaf, e] at this;exact this rfl
theorem MX {fr a o w} {x f : Nat} (h : a ≠ (f : Int)) : (g6 fr a o w x).getD f [] = fr.getD f [] := by
 unfold g6;split
 rename_i q
 simp only [lm, Qar] at q;obtain ⟨k, rfl, b⟩ := qB q.1;rw [Qaf];exact Fw (fun e => h (by rw [e]));rfl
theorem a53 {fr pg on root user va w} {x f : Nat} (h : ∀ t, aW pg t = true → (bJ pg t).1 ≠ f) : (lR fr pg on root user va w x).getD f [] = fr.getD f [] := by
 unfold lR;split;split
 rename_i q
 obtain ⟨c, d, e, a, g, b, i⟩ := LB q;rw [b];exact MX (h _ (LC a));rfl;rfl
theorem a54 {fr pg pa w} {x f : Nat} (h : ∀ t, aW pg t = true → (bJ pg t).1 ≠ f) : (kU fr pg pa w x).getD f [] = fr.getD f [] := by
 grind [kU, MX, LH]
theorem a55 {g fr pg e} {f : Nat} (h : ∀ t, aW pg t = true → (bJ pg t).1 ≠ f) : (eJ g fr pg e).2.getD f [] = fr.getD f [] := by
 grind [eJ, a53]
theorem a56 {i g fr pg} {f : Nat} (h : ∀ t, aW pg t = true → (bJ pg t).1 ≠ f) : (fk i g fr pg).2.getD f [] = fr.getD f [] := by
 grind [fk, jx, a55]
theorem GMem.step {i j x g} (h : GMem i x) (a : CpOk g.c) (b : j < 4) : GMem i ⟨(fk j g x.fr x.pg).2, x.pg, x.po⟩ := by
 obtain ⟨_, d, e, _⟩ := C3 (i := j) (pg := x.pg) a b h.fr;exact GMem.saved (fr := x.fr) h d e fun f _ q => a56 q
theorem GMem.vsave {i x pa w v} (h : GMem i x) : GMem i ⟨kU x.fr x.pg pa w v, x.pg, x.po⟩ :=
  GMem.saved (fr := x.fr) h (IQ h.fr).1 (IQ h.fr).2 fun f _ q => a54 q
theorem MY {B A R} : Ent (B ++ (A ++ R)) R := by
 rw [← QaI];exact (Ent.ofPerm QaY).trans ent_app
abbrev mI (c : Cfg) (i : Nat) (ws : List Nat) : Mm := ka c i ws (List.replicate (cM c) cR) (eH c (cM c))
abbrev z9 (b1 b2 b3 : Nat) : Mm := mI (py 2 0 b1 b2 b3) 0 [1310798, 40]
def C4 (b1 b2 b3 : Nat) : (Int × Gu) × List aE := fk 0 g0 (z9 b1 b2 b3).fr (z9 b1 b2 b3).pg
def C5 (b1 b2 b3 : Nat) : (Int × Gu) × List aE := fk 0 (C4 b1 b2 b3).1.2 (C4 b1 b2 b3).2 (z9 b1 b2 b3).pg
def za (b1 b2 b3 : Nat) : (Int × Gu) × List aE := fk 0 (C5 b1 b2 b3).1.2 (C5 b1 b2 b3).2 (z9 b1 b2 b3).pg
theorem a57 b1 b2 b3 : (C4 b1 b2 b3).1.1 = 0 := by kernel_rfl
theorem a58 b1 b2 b3 : (C5 b1 b2 b3).1.1 = 4 := by kernel_rfl
theorem a59 b1 b2 b3 : (za b1 b2 b3).1.1 = 5 := by kernel_rfl
theorem a6a b1 b2 b3 : (za b1 b2 b3).1.2.c.rl = [0, 5, 0, 0, 0, 0, 0, 0, 0, 0, 0, 0, 0, 0, 0, 0] := by kernel_rfl
theorem a6b b1 b2 b3 : (za b1 b2 b3).1.2.c.pc = 8 := by kernel_rfl
theorem a6c b1 b2 b3 : (za b1 b2 b3).1.2.clock = 3 := by kernel_rfl
theorem MZ : CpOk g0.c := ⟨⟨rfl, fun x a => by
 have := List.eq_of_mem_replicate a
 omega⟩, by decide, ⟨rfl, by decide⟩⟩
theorem GOk.new {z} (a : z.i < 4) : GOk z g0 0 := ⟨MZ, a, Qao _, Qao _, by decide, by decide⟩
theorem GOk.step {z g N fr pg} (h : GOk z g N) (a : cC fr) : GOk z (fk z.i g fr pg).1.2 (N + 1) := by
 obtain ⟨b, _, _, d, e, f, j⟩ := C3 (i := z.i) (pg := pg) h.c h.i a;exact h.more b (by omega) d (by omega) (by omega)
theorem a6d (U : ∀ A, bF (aT W0 A) 1 0 jj) (V : ∀ A, bF (aT W0 A) 0 0 l6) : sQ W0 5 [] R (.bool true) R := by
 refine am func5 ntmps5 ?_;refine aG rfl (aC call10 (Mp 0 0 (by decide) (by decide))) ?_;rintro _ X ⟨j, k, l, rfl, t⟩;obtain rfl := t.symm;rw [show lV 0 = 2 from rfl, show se 0 0 = 0 from rfl];refine dK (kl tP aU a7Y rfl rfl rfl rfl rfl (by decide) (by decide)) fun M => ?_;refine gD (b := M) (o' := ag ([1310798, 40].flatMap j6) 46) rfl ?_;refine MW (fun v _ => v = .bool true) (fun v B Y => ⟨R, ⟨Y, rfl⟩, MY (A := [_, _, _, _])⟩) fun W H => ?_;have I := Mo 2 (by decide) (by decide) 0 (by decide) (by decide) j k l;have P : CfK W (py 2 0 j k l) := Mq (H.ent Ent.drop);have Q : ∀ A, cF (aT W A) (some ⟨M, 0, none⟩) 1 j6 [1310798, 40] := w7 H (sX (b := M) (fun _ => rfl) rfl);have u := y7 H (U _);have w := y7 H (V _);clear H;have N := FF I (i := 0) (show 0 < 2 by decide) [1310798, 40];refine aG rfl (aC call6 (a5U W _ (py 2 0 j k l) P I 0 (show 0 < 2 by decide) (some ⟨M, 0, none⟩) 2 [1310798, 40] Q (by decide) (by decide) (by decide))) ?_;rintro _ X ⟨G, z, wg, wb, rfl, Z, y, x0, t⟩;obtain rfl := t.symm;have C : GOk z g0 0 := GOk.new (by omega);obtain ⟨x, O⟩ : ∃ x, z9 j k l = x := ⟨_, rfl⟩
 rw [show ka (py 2 0 j k l) 0 [1310798, 40] (List.replicate (cM (py 2 0 j k l)) cR) (eH (py 2 0 j k l) (cM (py 2 0 j k l))) = x from O] at N ⊢;obtain ⟨p, m⟩ : ∃ s, fk z.i g0 x.fr x.pg = s := ⟨_, rfl⟩
 obtain ⟨q, n⟩ : ∃ s, fk z.i p.1.2 p.2 x.pg = s := ⟨_, rfl⟩
 obtain ⟨o, D⟩ : ∃ s, fk z.i q.1.2 q.2 x.pg = s := ⟨_, rfl⟩
 have S : p = C4 j k l := by rw [← m, y, ← O]; rfl
 have T : q = C5 j k l := by rw [← n, y, S, ← O]; rfl
 have e3 : o = za j k l := by rw [← D, y, T, ← O]; rfl
 have k1 : p.1.1 = 0 := by grind [a57]
 have k2 : q.1.1 = 4 := by grind [a58]
 have k3 : o.1.1 = 5 := by grind [a59]
 have kr : o.1.2.c.rl = [0, 5, 0, 0, 0, 0, 0, 0, 0, 0, 0, 0, 0, 0, 0, 0] := by grind [a6a]
 have kp : o.1.2.c.pc = 8 := by grind [a6b]
 have kk : o.1.2.clock = 3 := by grind [a6c]
 clear S T e3;have E : cC p.2 := by rw [← m]; exact (C3 (i := z.i) (pg := x.pg) C.c (by omega) N.fr).2.1
 have F : GOk z p.1.2 1 := by rw [← m]; exact C.step N.fr
 have J : cC q.2 := by rw [← n]; exact (C3 (i := z.i) (pg := x.pg) F.c (by omega) E).2.1
 have K : GOk z q.1.2 2 := by rw [← n]; exact F.step E
 have L : GOk z o.1.2 3 := by rw [← D]; exact K.step J
 refine aw ?_;refine i6 rfl rfl rfl (fun g => ?_) fun g => ?_;refine au 2 ?_;refine ah (y4 GX rfl (BD W _ G z g0 0 x.fr x.pg u w C (by decide) N.fr)) ?_;rw [m, k1];refine i6 rfl rfl rfl (fun h => ?_) fun h => ?_;refine au 2 ?_;refine ah (y4 GX rfl (BD W _ G z p.1.2 1 p.2 x.pg u w F (by decide) E)) ?_;rw [n, k2];refine i6 rfl rfl rfl (fun a => ?_) fun a => ?_;refine au 2 ?_;refine ah (y4 GX rfl (BD W _ G z q.1.2 2 q.2 x.pg u w K (by decide) J)) ?_;rw [D, k3];refine i6 rfl rfl rfl (fun d => ?_) fun d => ?_;refine au 2 ?_;refine ah (cA Oq (Fx W _ G z o.1.2 L.c.r.len)) ?_;refine ac rfl (II zo aU lY rfl rfl rfl (by decide) (by rw [kr]; rfl)) ?_;refine cz rfl rfl (ac rfl (i5 rfl rfl) (ac rfl (jO rfl rfl) (ac rfl (aM rfl) ?_)));refine i6 rfl rfl rfl (fun e => ?_) fun e => ?_;refine au 2 ?_;refine ku (cA call14 (Mj W _ G z o.1.2 L.c.r.len)) ?_;rw [kp];refine cz rfl rfl (ac rfl (i5 rfl rfl) (ac rfl (jO rfl rfl) (ac rfl (aM rfl) ?_)));refine i6 rfl rfl rfl (fun f => ?_) fun f => ?_;refine au 2 ?_;refine ah (ao call15 (Mi W _ G z o.1.2)) ?_;rw [kk];refine ae ?_;exact ⟨_, rfl, ent_refl⟩
 first | exact absurd rfl f | exact absurd (by decide) f | simp at f
 first | exact absurd rfl e | exact absurd (by decide) e | simp at e
 first | exact absurd rfl d | exact absurd (by decide) d | simp at d
 first | exact absurd rfl a | exact absurd (by decide) a | simp at a
 first | exact absurd rfl h | exact absurd (by decide) h | simp at h
 first | exact absurd rfl g | exact absurd (by decide) g | simp at g
structure Ak where
  k : Int
  n : Int
  w : Nat
@[reducible] def rp (a : Ak) : List Value := [.int .i64 a.k, .int .i64 a.n, wV a.w]
abbrev raiseG (g : Gu) (n : Int) : Gu := { g with ls := if gH n then ml g.ls g.ln n.toNat else g.ls, ln := if gH n then k8 g.ls g.ln n.toNat else g.ln }
abbrev FY (g : Gu) (n : Int) : Gu := { g with tm := tG g.tm n }
abbrev FZ (g : Gu) (n : Int) (w : Nat) : Gu := { g with c := ⟨if hJ n then je g.c.rl n.toNat w else g.c.rl, g.c.pc, g.c.cs⟩ }
abbrev a6e (x : Mm) (n : Int) (w : Nat) : Mm := ⟨kU x.fr x.pg (u32 n) 4 w, x.pg, x.po⟩
attribute [local irreducible] cN dq
def l9 (x0 x : Mm) : Prop := x.po.length = x0.po.length ∧ ∀ f, (dp x.po f).1 = (dp x0.po f).1
theorem l9.rfl' x : l9 x x := ⟨rfl, fun _ => rfl⟩
theorem l9.par {x0 x i} (h : l9 x0 x) : oG i x.po = oG i x0.po := by
 unfold oG;rw [h.1];exact Qak List.length (Qcv fun f _ => by rw [h.2 f])
theorem l9.set {x0 x} (h : l9 x0 x) {f i : Nat} {b c fr pg} (a : f < x.po.length) (d : dp x.po f = ((i : Int), b)) : l9 x0 ⟨fr, pg, x.po.set f (i, c)⟩ := by
 refine ⟨by rw [Qam]; exact h.1, fun k => ?_⟩;dsimp only;rw [jV a];split
 rename_i e; rw [e, ← h.2 f, d]
 exact h.2 k
theorem l9.take {x0 x} (h : l9 x0 x) {i p} : l9 x0 (mo i p x) := by
 unfold mo;split
 cases e : cm x.po i with
 | nil => exact h
 | cons f l =>
  have a := kX.1 (show f ∈ cm x.po i by rw [e]; simp);exact h.set a.1 a.2
 exact h
theorem a6f i p x : (mo i p x).fr = x.fr := by
 unfold mo;split;cases cm x.po i <;> rfl;rfl
theorem l9.gave {x0 x} (h : l9 x0 x) {i p} (b : GMem i x) : l9 x0 (mp i p x) := by
 unfold mp;split
 rename_i q
 simp only [Qar] at q;obtain ⟨n, rfl, e⟩ := v5 q.1;obtain ⟨f, c, g, a⟩ := b.at_ q.2;have d := b.own n e q.2;rw [c, Qaf] at d;rw [Qaf, nR, c, Qaf];exact h.set a d;exact h
theorem l9.anew {x0 x} (h : l9 x0 x) {i n ws} (a : GMem i x) (b : i < 16) : l9 x0 (kP i n ws x) := by
 obtain ⟨c, d⟩ := yU a b 8 (Qao _);obtain ⟨e, g⟩ := yW (who := i) (words := bz ws n) (x := ⟨(cN i 8 x).fr, (cN i 8 x).po, (cN i 8 x).pg⟩) n;exact ⟨e.trans (c.trans h.1), fun f => (g f).trans ((d f).trans (h.2 f))⟩
theorem GOk.raise {z g N} (h : GOk z g N) n : GOk z (raiseG g n) (N + 1) := by
 refine h.more h.c (Qcx _) (by show g.bud ≤ _; omega) ?_ (by show g.tm.now ≤ _; omega);have := Ft g.ls g.ln n.toNat;show (if _ then k8 g.ls g.ln n.toNat else g.ln) ≤ _;split <;> omega
theorem GOk.arm {z g N} (h : GOk z g N) n : GOk z (FY g n) (N + 1) := by
 refine h.more h.c (Qcx _) (by show g.bud ≤ _; omega) (by show g.ln ≤ _; omega) ?_;show (tG g.tm n).now ≤ _;unfold tG;split;split;exact QbY _;omega;omega
theorem GOk.setr {z g N} (h : GOk z g N) n {w} (a : w < 4294967296) : GOk z (FZ g n w) (N + 1) := by
 refine h.more ⟨?_, h.c.pc, h.c.cs⟩ (Qcx _) (by show g.bud ≤ _; omega) (by show g.ln ≤ _; omega) (by show g.tm.now ≤ _; omega);show RlOk (if hJ n then je g.c.rl n.toNat w else g.c.rl);split;exact h.c.r.set _ _ a;exact h.c.r
theorem GOk.answer {z g N e w} (h : GOk z g N) (he : e < 4294967296) (a : w < 4294967296) : GOk z (BG g e w) (N + 1) :=
  h.more ⟨a5Y h.c.r he a, by show cV g.c.pc < _; unfold cV; exact dU _, h.c.cs⟩ (Qcx _) (by show g.bud ≤ _; omega) (by show g.ln ≤ _; omega) (by show g.tm.now ≤ _; omega)
theorem GOk.halt {z g N} (h : GOk z g N) k a b p : GOk z (oC (fg g) k a b p) (N + 1) :=
  h.more h.c (Qcx _) (by show g.bud ≤ _; omega) (by show g.ln ≤ _; omega) (by show g.tm.now ≤ _; omega)
theorem GOk.anew {z z' g N} (h : GOk z g N) (a : z'.i < 4) : GOk z' (sd g) (N + 1) :=
  ⟨MZ, a, Nat.le_succ_of_le h.clk, QaK _, by show (0 : Int) ≤ _; omega, by show (0 : Int) ≤ _; omega⟩
theorem zc g a b : (fX g a b).2.qa = g.qa ∧ (fX g a b).2.qb = g.qb ∧ (fX g a b).2.qc = g.qc := by unfold fX; split <;> exact ⟨rfl, rfl, rfl⟩
theorem a6g {i g fr pg} : (fk i g fr pg).1.2.qa = g.qa ∧ (fk i g fr pg).1.2.qb = g.qb ∧ (fk i g fr pg).1.2.qc = g.qc := by
 unfold fk
 split; · exact ⟨rfl, rfl, rfl⟩
 have a : (fY (iX (j7 g))).2.qa = g.qa ∧ (fY (iX (j7 g))).2.qb = g.qb ∧ (fY (iX (j7 g))).2.qc = g.qc := by
  unfold fY
  split
  cases jK (iX (j7 g)).ls <;> exact ⟨rfl, rfl, rfl⟩
  exact ⟨rfl, rfl, rfl⟩
 split; · exact a
 generalize (fY (iX (j7 g))).2 = q at a
 suffices h : (jx i q fr pg).1.2.qa = q.qa ∧ (jx i q fr pg).1.2.qb = q.qb ∧ (jx i q fr pg).1.2.qc = q.qc by rw [h.1, h.2.1, h.2.2]; exact a
 unfold jx
 split; · exact zc _ _ _
 split; · exact zc _ _ _
 unfold eJ
 split
 unfold pw
 split
 exact zc _ _ _
 exact ⟨rfl, rfl, rfl⟩
 split
 unfold px
 split
 exact zc _ _ _
 exact ⟨rfl, rfl, rfl⟩
 split; · exact zc _ _ _
 split; · exact ⟨rfl, rfl, rfl⟩
 split; · exact ⟨rfl, rfl, rfl⟩
 split <;> exact ⟨rfl, rfl, rfl⟩
theorem a6h c i ws fr po : l9 ⟨fr, jI, po⟩ (ka c i ws fr po) := by
 obtain ⟨a, b⟩ := yW (who := i) (words := bz ws (dh c i).2.1.toNat) (x := ⟨fr, po, jI⟩) (dh c i).2.1.toNat;exact ⟨a, b⟩
end
section
open Go.ChangeShapes Go.WideShapes Go.ChangeAt Go.RowKit
variable {W : World} {v : Value}
theorem a6i {l : List Value} (h : l.length = 3) : ∃ a b c, l = [a, b, c] := by
 match l, h with
 | [a, b, c], _ => exact ⟨a, b, c, rfl⟩
theorem a6j {fuel l} (h : kR Tryz.prog W fuel 48 l) : ∃ x, l = rp x ∧ x.w < 4294967296 := by
 obtain ⟨m, r, d⟩ := OK Nx h;obtain ⟨a, b, c, rfl⟩ := a6i (m.trans (by kernel_rfl));have e := d _ (Qbj ..);have f := d _ (QbF _ (Qbj ..));have g := d _ (QbF _ (QbF _ (Qbj ..)));rw [show Tryz.prog.cellsOf 3 = 1 by kernel_rfl] at e f;rw [show Tryz.prog.cellsOf 46 = 1 by kernel_rfl] at g;obtain ⟨n, i, _⟩ := zT jL e;obtain ⟨o, j, _⟩ := zT jL f;obtain ⟨p, k, q⟩ := IS g;simp at i j k;exact ⟨⟨n, o, p⟩, by rw [i, j, k]; rfl, q⟩
theorem a6k (h : Ty Tryz.prog W 43 v) : ∃ a c, ∃ b, v = .slice a b.length c ∧ b.length < 9223372036854775808 ∧ vC W a 3 rp b ∧ ∀ t ∈ b, t.w < 4294967296 := by
 obtain ⟨a, c, e, rfl, k, g, i, j⟩ := Hq (f := rp) (Q := fun t : Ak => t.w < 4294967296) 3 Nw (by kernel_rfl) (by decide) (fun d r h => a6j h) h;exact ⟨a, c, e, rfl, by simp only [maxLen] at g; omega, i, j⟩
theorem a6l {fuel l} (h : kR Tryz.prog W fuel 46 l) : ∃ x, l = j6 x ∧ x < 4294967296 := by
 obtain ⟨x, rfl, a⟩ := IS h;exact ⟨x, rfl, a⟩
theorem a6m (h : Ty Tryz.prog W 29 v) : ∃ a c b, v = .slice a (List.length (α := Nat) b) c ∧ b.length < 9223372036854775808 ∧ b.length ≤ c ∧ vC W a 1 j6 b ∧ ∀ x ∈ b, x < 4294967296 := by
 obtain ⟨a, c, b, rfl, e, g, i, j⟩ := Hq (f := j6) (Q := fun x => x < 4294967296) 1 tP (by kernel_rfl) (by decide) (fun d r h => a6l h) h;exact ⟨a, c, b, rfl, by simp only [maxLen] at g; omega, e, i, j⟩
end
section
open Go.RowKit
theorem a6n gb z g (b : g.c.rl.length = 16) : sQ W0 61 [pV gb] (pt gb (dC z g) :: pt z.x.r (dR g.c.rl g.c.pc) :: R) (.tuple #[wV (bP g.c.rl 1), .agg #[wV (bP g.c.rl 2), wV (bP g.c.rl 3), wV (bP g.c.rl 4), wV (bP g.c.rl 5)]]) (pt gb (dC z g) :: pt z.x.r (dR g.c.rl g.c.pc) :: R) := by
 obtain ⟨⟨Q, p, q⟩, s, t, u, v, w, y, A, B, C, D, E⟩ := g;dsimp only at b ⊢;obtain ⟨F, G, H, I, J, K, L, M, N, O, d, e, f, l, m, o, rfl⟩ := a0P b;refine kS func61 ntmps61 rfl rfl ?_;refine aQ (aY (ac rfl (bj rfl) ?_));refine fi (dQ Cm) fun S => ?_;refine aP (aH (aQ (aY (ac rfl (aM rfl) (ku (cA Oq (Fx W0 _ gb z ⟨⟨[F, G, H, I, J, K, L, M, N, O, d, e, f, l, m, o], p, q⟩, s, t, u, v, w, y, A, B, C, D, E⟩ b)) ?_)))));refine fi (dQ NC) fun P => ?_;refine eU (fM nY rfl rfl rfl rfl rfl) ?_;rintro _ _ rfl;refine aP (aH (aQ ?_));refine bc [P] 7 fun a => ?_;refine az 0 a (fN zo aU rfl rfl (i := 1) rfl (by decide) (by first | exact Qac _ | rfl)) ?_;refine bu 1 rfl rfl rfl a (cg lY rfl (cp (k := 0) rfl rfl)) ?_;refine az 2 a (Z3 (i := 2) (h := 6) (o' := 2) zo aU rfl rfl rfl rfl rfl (by decide) (by decide) (by decide) rfl) ?_;refine az 3 a (Z4 GW rfl (by decide)) ?_;refine az 4 a (dt (Z5 (n := 4) (j := 2) (j9 (k := 0) rfl) rfl)) ?_;refine aj 5 1 a ?_;refine cj 6 aB fun a => ?_;refine aK ?_;exact aS (.cons (aN rfl) (.cons (aX N9 Ga rfl rfl) .nil)) ap
end
section
open Go.RowKit
set_option maxRecDepth 20000
set_option synthInstance.maxSize 2000
set_option synthInstance.maxHeartbeats 1000000
attribute [local irreducible] cN dq
abbrev dW (gb wb wg : Nat) (z : Gz) (zr : Rz) (g : Gu) (x : Mm) (L : List Nat) (T : List (Int × Int)) (d : Nat) (wl : List Nat) (R : List HP) : List HP := gA gb z g x (cW z.pb (z.ps, x.po) :: bB z.ps x.fr :: pt wg (ag (wl.map wV) 46) :: rA wb zr g L T d x R)
structure Dg (W0 : World) where
  c : Cfg
  i : Nat
  n : Nat
  wg : Nat
  wl : List Nat
  a : Option Addr
  cap : Nat
  ws : List Nat
  x0 : Mm
  bx : Nat
  br : Nat
  ok : CfK W0 c
  rt : rt c = true
  hi : i < c.gl.length
  hn : (dh c i).2.1 = (n : Int)
  par : n ≤ oG i x0.po
  po : 0 < x0.po.length
  hwl : wl = bz ws 8
  hs : ∀ A, cF (aT W0 A) a 1 j6 ws
  hb : ∀ y ∈ ws, y < 4294967296
  hl : ws.length < 9223372036854775808
  hc : ws.length ≤ cap
theorem Dg.n8 {W0} (D : Dg W0) : D.n ≤ 8 := by
 have := (lx D.rt).gs D.i D.hi;rw [D.hn] at this; omega
theorem Dg.i4 {W0} (D : Dg W0) : D.i < 4 := by have := (lx D.rt).g4; have := D.hi; omega
theorem Dg.anew {W0} (D : Dg W0) i x : kP i D.n D.wl x = kP i D.n D.ws x := by
 have a := D.n8;have e : bz D.wl D.n = bz D.ws D.n := by
  rw [D.hwl, bz, bz, bz, List.take_take, Qbm (by omega)]
 rw [kP, kP, e]
theorem Dg.wlb {W0} (D : Dg W0) : (∀ y ∈ D.wl, y < 4294967296) ∧ D.wl.length ≤ 128 := by
 rw [D.hwl];exact ⟨fun y a => D.hb y (QbG a), by rw [w8]; omega⟩
structure DInv {W0 : World} (D : Dg W0) (N : Nat) (z : Gz) (zr : Rz) (g : Gu) (x : Mm) (L : List Nat) (T : List (Int × Int)) : Prop where
  c : z.c = D.c
  i : z.i = D.i
  w : z.wv = .slice (some ⟨D.wg, 0, none⟩) D.wl.length D.wl.length
  bx : z.bx = D.bx
  rc : zr.k = D.c
  ri : zr.i = D.i
  rw : zr.wv = .slice D.a D.ws.length D.cap
  rb : zr.bx = D.br
  ok : GOk z g N
  m : GMem D.i x
  s : l9 D.x0 x
  l : LRel g.ls g.ln L
  t : TRel g.tm T
  e : g.es.length ≤ 4096
theorem wM {es e} (h : es.length ≤ 4096) : (pX es e).length ≤ 4096 := by
 unfold pX;split;rw [Qae, Qcm]; omega;exact h
theorem G0 {g a b} (h : g.es.length ≤ 4096) : (fX g a b).2.es.length ≤ 4096 := by
 unfold fX;split <;> exact wM h
theorem a6o {g fr pg e} (h : g.es.length ≤ 4096) : (eJ g fr pg e).1.2.es.length ≤ 4096 := by
 unfold eJ pw px
 repeat' (first | exact G0 h | exact wM h | exact h | split)
theorem a6p {i g fr pg} (h : g.es.length ≤ 4096) : (fk i g fr pg).1.2.es.length ≤ 4096 := by
 have a : (fY (iX (j7 g))).2.es.length ≤ 4096 := by
  unfold fY;split
  cases jK (iX (j7 g)).ls with
  | none => exact h
  | some n => exact wM h
  exact h
 unfold fk;split;exact h;split;exact a;unfold jx;split;exact G0 a;split;exact G0 a;exact a6o a
theorem LRel.raiseG {ls now L} (h : LRel ls now L) (a : now < 1000000) n : LRel (if gH n then ml ls now n.toNat else ls) (if gH n then k8 ls now n.toNat else now) (nT L n) := by
 cases q : gH n with
 | false =>
  rw [nT, q];simpa using h
 | true =>
  have := Qas q;obtain ⟨k, rfl⟩ : ∃ k : Nat, n = (k : Int) := ⟨n.toNat, by omega⟩
  rw [Qad rfl, Qad rfl, Qaf];exact h.raise a (by omega)
def a6q {W0 : World} (D : Dg W0) (gb wb N : Nat) (R : List HP) (v : Value) (B : List HP) : Prop :=
  v = .bool true ∧ ∃ z zr g x L T d, B = dW gb wb D.wg z zr g x L T d D.wl R ∧ DInv D N z zr g x L T
theorem a6r (hK : ∀ A, bF (aT W0 A) 1 0 jj) (hH : ∀ A, bF (aT W0 A) 0 0 l6) (D : Dg W0) gb wb N (hN : N ≤ 200) z zr g x L T d (f : DInv D N z zr g x L T) a (C : a.w < 4294967296) : sP W0 11 [pV gb, pV wb, .agg (rp a).toArray] (dW gb wb D.wg z zr g x L T d D.wl R) (a6q D gb wb (N + 1) R) := by
 have F := D.i4;have G : z.i < 4 := by rw [f.i]; exact F
 have O : GMem z.i x := by rw [f.i]; exact f.m
 have H : GMem zr.i x := by rw [f.ri]; exact f.m
 have I : zr.i < 4 := by rw [f.ri]; exact F
 have x5 := f.ok.clk;have x2 := f.ok.ln;have x3 := f.ok.tn;have o : g.clock < 1000000000 := by omega
 have p : g.c.rl.length = 16 := f.ok.c.r.len;have E : 0 < x.po.length := by rw [f.s.1]; exact D.po
 have x4 := f.l.few;refine am func11 ntmps11 ?_;refine fi (kh rfl) fun J => ?_;refine ac rfl (bj rfl) (aP (aH (aQ (aQ (aY ?_)))));refine ac rfl (cD rfl Nx rfl aR rfl (by first | exact Qac _ | rfl)) ?_;refine ac rfl (cg db rfl (aJ rfl)) ?_;refine aP (aH (nq (aQ (aY (ac rfl (i5 rfl rfl) (ac rfl (bj rfl) (aP (aH ?_))))))));refine aD rfl (fun c2 => ?_) fun c2 => ?_;refine aQ ?_;refine eV [(J, 0, rp a), (wb, 38, [pV zr.vic])] 14 mixed rfl (bL (bU (ig fun _ => rfl) bE)) (fun h => ?_);refine aj 0 1 h ?_;refine aj 2 2 h ?_;refine aj 5 3 h ?_;refine az 8 h (aF (ko (k := 1) rfl)) ?_;refine aj 9 2 h ?_;refine gB 1 rfl rfl (ao call50 (a4E W0 _ gb z g)) (bL (bU (ig fun _ => rfl) bE)) fun h => ?_;refine gB 4 rfl rfl (ao call51 (LW z.x.v g.ls g.ln a.n (by omega))) (bL (bU (ig fun _ => rfl) bE)) fun h => ?_;refine gB 11 rfl rfl (ao call52 (My zr.vic L (by omega) a.n)) (bL (bU (ig fun _ => rfl) bE)) fun h => ?_;refine aj 12 2 h ?_;refine gC ?_;refine aH (dv (my (gQ (ae ?_))));refine ⟨_, ⟨Qak Value.bool (Qbx _), z, zr, raiseG g a.n, x, _, T, d, rfl, ⟨f.c, f.i, f.w, f.bx, f.rc, f.ri, f.rw, f.rb, f.ok.raise a.n, f.m, f.s, f.l.raiseG (by omega) a.n, f.t, f.e⟩⟩, ?_⟩;unfold dW gA rA;rw [show di wb (zr, raiseG g a.n) = di wb (zr, g) from rfl];exact IO;refine aQ (aY (ac rfl (i5 rfl rfl) (ac rfl (bj rfl) (aP (aH ?_)))));refine aD rfl (fun c4 => ?_) fun c4 => ?_;refine aQ ?_;refine bc [J] 10 fun h => ?_;refine aj 0 3 h ?_;refine aj 4 3 h ?_;refine bG 3 (cK call53 (a4J W0 _ gb z g G a.n x O E)) fun h => ?_;refine lN 7 (by kernel_rfl) rfl rfl (mG call54 rfl (a5J W0 _ wb zr g d I a.n x H E)) rfl ?_; clear h;rintro _ K ⟨rfl, j⟩;obtain rfl := j.symm;rw [show wH zr.i a.n x = wH z.i a.n x by rw [f.ri, f.i], show mo zr.i a.n x = mo z.i a.n x by rw [f.ri, f.i]];refine ⟨aV, fun h => ?_⟩;refine aj 8 2 h ?_;refine gC ?_;refine aH (dv (my (gQ (ae ?_))));refine ⟨_, ⟨Qak Value.bool (Qbx _), z, zr, g, mo z.i a.n x, L, T, d, rfl, ⟨f.c, f.i, f.w, f.bx, f.rc, f.ri, f.rw, f.rb, f.ok.le (Qcx N), (by rw [f.i]; exact f.m.take (by omega)), f.s.take, f.l, f.t, f.e⟩⟩, ?_⟩;unfold dW gA rA;rw [a6f];exact IO;refine aQ (aY (ac rfl (i5 rfl rfl) (ac rfl (bj rfl) (aP (aH ?_)))));refine aD rfl (fun c6 => ?_) fun c6 => ?_;refine aQ ?_;refine bc [J] 10 fun h => ?_;refine aj 0 3 h ?_;refine aj 4 3 h ?_;refine lN 3 (by kernel_rfl) rfl rfl (mG call55 rfl (a4K W0 _ gb z g G a.n x O)) rfl ?_; clear h;rintro _ K ⟨rfl, j⟩;obtain rfl := j.symm;refine ⟨(bL bE), fun h => ?_⟩;refine bX 7 (vG call56 rfl (a5K W0 _ wb zr g d I a.n x H)) ?_; clear h;rintro _ K ⟨rfl, j⟩;obtain rfl := j.symm;rw [show mp zr.i a.n x = mp z.i a.n x by rw [f.ri, f.i]];refine ⟨aV, fun h => ?_⟩;refine aj 8 2 h ?_;refine aK ?_;refine ae ?_;exact ⟨_, ⟨Qak Value.bool (Qbx _), z, zr, g, mp z.i a.n x, L, T, d, rfl, ⟨f.c, f.i, f.w, f.bx, f.rc, f.ri, f.rw, f.rb, f.ok.le (Qcx N), (by rw [f.i]; exact f.m.gave (by omega)), f.s.gave O, f.l, f.t, f.e⟩⟩, IO⟩;refine aw ?_;refine ai (fun c8 => ?_) fun c8 => ?_;refine aG rfl (vG call57 rfl (a4M W0 _ gb z g (by rw [f.c]; exact D.ok) (by rw [f.c]; exact D.rt) (by rw [f.c, f.i]; exact D.hi) o x O E D.n (by rw [f.c, f.i]; exact D.hn) (by rw [f.i, f.s.par]; exact D.par) (some ⟨D.wg, 0, none⟩) D.wl.length D.wl f.w (by intro A hA; refine cF.weak (k := hA) ?_; exact sX (b := D.wg) (fun _ => rfl) (Z8 D.wl).symm) D.wlb.1 D.wlb.2)) ?_
 rintro _ K ⟨y, q0, q1, q2, rfl, j⟩;obtain rfl := j.symm;refine aw ?_;refine aG rfl (vG call58 rfl (a5Q W0 _ wb zr d g (by rw [f.rc]; exact D.ok) (by rw [f.rc]; exact D.rt) (by rw [f.rc, f.ri]; exact D.hi) o x H E D.n (by rw [f.rc, f.ri]; exact D.hn) (by rw [f.ri, f.s.par]; exact D.par) D.a D.cap D.ws f.rw D.hs D.hb D.hl D.hc)) ?_;rintro _ K ⟨r', c', v', t', rfl, j⟩;obtain rfl := j.symm;rw [show kP zr.i D.n D.ws x = kP z.i D.n D.wl x by rw [D.anew, f.ri, f.i]];refine aw ?_;refine ae ?_;exact ⟨_, ⟨rfl, { z with x := y, q0 := q0, q1 := q1, q2 := q2 }, { zr with r := r', c := c', vic := v', tim := t' }, sd g, kP z.i D.n D.wl x, [], [], d, rfl, ⟨f.c, f.i, f.w, f.bx, f.rc, f.ri, f.rw, f.rb, f.ok.anew G, (by rw [f.i]; exact f.m.anew (by omega) D.n8 (by rw [f.s.par]; exact D.par)), f.s.anew O (by omega), LRel.new, TRel.new, wM f.e⟩⟩, IO⟩;refine ai (fun S => ?_) fun S => ?_;refine ah (cA call59 (a5G W0 _ wb zr g o p)) ?_;refine ah (cK call60 (a4B W0 _ gb z g o p)) ?_;refine ae ?_;exact ⟨_, ⟨rfl, z, zr, oC (fg g) 4 0 0 g.c.pc, x, L, T, d, rfl, ⟨f.c, f.i, f.w, f.bx, f.rc, f.ri, f.rw, f.rb, f.ok.halt 4 0 0 g.c.pc, f.m, f.s, f.l, f.t, wM f.e⟩⟩, IO⟩;refine ai (fun U => ?_) fun U => ?_;refine ah (cA call61 (a6n gb z g p)) ?_;refine bi fun b8 => ?_;refine av aB ?_;refine ah (cA call62 (a5H W0 _ wb zr g p)) ?_;refine bi fun x6 => ?_;refine av aB ?_;refine aa (dV rfl rfl (by decide) rfl) ?_;refine ah (cA call63 (a5I W0 _ wb zr g o p (a.n.tmod 20) a.w _ rfl)) ?_;refine aa (dV rfl rfl (by decide) rfl) ?_;refine ah (cK call64 (a4C W0 _ gb z g o p (a.n.tmod 20) a.w _ rfl)) ?_;refine i6 rfl rfl rfl (fun u => ?_) fun u => ?_;refine ac rfl (aM rfl) ?_;refine cz rfl rfl (ac rfl (aM rfl) (cz rfl rfl (ac rfl (i5 rfl rfl) (ac rfl (jO rfl rfl) (ac rfl (aM rfl) ?_)))));refine i6 rfl rfl rfl (fun q => ?_) fun q => ?_;refine au 4 ?_;refine aa (vx Tryz.eqGuardType99 rfl rfl (y8 (i := Tryz.t46) (ms := [bP g.c.rl 2, bP g.c.rl 3, bP g.c.rl 4, bP g.c.rl 5].map Int.ofNat) (ns := [bP g.c.rl 2, bP g.c.rl 3, bP g.c.rl 4, bP g.c.rl 5].map Int.ofNat) GW (by kernel_rfl) (by kernel_rfl) sx lY rfl rfl rfl rfl)) ?_;refine ae ?_;exact ⟨_, ⟨Qak Value.bool (Qbx _), z, zr, BG g (u32 (a.n.tmod 20)) a.w, x, L, T, d, rfl, ⟨f.c, f.i, f.w, f.bx, f.rc, f.ri, f.rw, f.rb, f.ok.answer (dU _) C, f.m, f.s, f.l, f.t, wM f.e⟩⟩, IO⟩;exact absurd rfl q;exact absurd rfl u;refine ai (fun V => ?_) fun V => ?_;refine eV [(J, 0, rp a), (wb, 13, [pV zr.v])] 20 mixed rfl (bL (bU (ig fun _ => rfl) bE)) (fun h => ?_);refine aj 0 1 h ?_;refine aj 2 2 h ?_;refine az 4 h (bD (d8 _)) ?_;refine aj 5 2 h ?_;refine aj 8 3 h ?_;refine az 11 h (aF (ko (k := 1) rfl)) ?_;refine aj 12 2 h ?_;refine az 14 h (bD (d8 _)) ?_;refine aj 15 2 h ?_;refine gB 1 rfl rfl (ao Ot (Fy W0 _ gb z g)) (bL (bU (ig fun _ => rfl) bE)) fun h => ?_;refine gB 7 rfl rfl (cA call65 (a3o W0 _ z.x.m z.pv z.ps z.pm g.bud x.fr x.pg (u32 a.n) (dU _) 4 a.w C)) (bL (bU (ig fun _ => rfl) bE)) fun h => ?_;refine gB 17 rfl rfl (cK call66 (WX zr.v zr.ps zr.pm d x.fr x.pg f.m.pg f.m.fr (u32 a.n) (dU _) 4 a.w C)) (bL (bU (ig fun _ => rfl) bE)) fun h => ?_
 refine aj 18 2 h ?_;refine aK ?_;refine ae ?_;exact ⟨_, ⟨Qak Value.bool (Qbx _), z, zr, g, a6e x a.n a.w, L, T, pN x.fr x.pg (u32 a.n) 4 d, rfl, ⟨f.c, f.i, f.w, f.bx, f.rc, f.ri, f.rw, f.rb, f.ok.le (Qcx N), f.m.vsave, f.s, f.l, f.t, f.e⟩⟩, IO⟩;refine ai (fun W => ?_) fun W => ?_;refine eV [(J, 0, rp a), (wb, 11, [pV zr.r])] 17 mixed rfl (bL (bU (ig fun _ => rfl) bE)) (fun h => ?_);refine aj 0 5 h ?_;refine aj 6 3 h ?_;refine az 9 h (aF (ko (k := 1) rfl)) ?_;refine aj 10 4 h ?_;refine gB 5 rfl rfl (cA call67 (a4D W0 _ gb z g p a.n a.w)) (bL (bU (ig fun _ => rfl) bE)) fun h => ?_;refine gB 14 rfl rfl (ao zI (wI zr.r a.w a.n p)) (bL (bU (ig fun _ => rfl) bE)) fun h => ?_;refine aj 15 2 h ?_;refine aK ?_;refine ae ?_;refine ⟨_, ⟨Qak Value.bool (Qbx _), z, zr, FZ g a.n a.w, x, L, T, d, rfl, ⟨f.c, f.i, f.w, f.bx, f.rc, f.ri, f.rw, f.rb, f.ok.setr a.n C, f.m, f.s, f.l, f.t, f.e⟩⟩, ?_⟩;unfold dW gA rA;rw [show di wb (zr, FZ g a.n a.w) = di wb (zr, g) from rfl];exact IO;refine ai (fun X => ?_) fun X => ?_;refine bc [J] 10 fun h => ?_;refine aj 0 1 h ?_;refine aj 2 2 h ?_;refine bG 1 (ao call69 (a4F W0 _ gb z g)) fun h => ?_;refine bG 4 (ao call70 (a4f z.x.t g.tm a.n (by omega))) fun h => ?_;refine aj 5 5 h ?_;refine aK ?_;refine eV [(J, 0, rp a), (wb, 39, [pV zr.tim])] 12 mixed rfl (bL (bU (ig fun _ => rfl) bE)) (fun h => ?_);refine aj 0 3 h ?_;refine az 3 h (aF (ko (k := 1) rfl)) ?_;refine aj 4 2 h ?_;refine bX 6 (ao call71 (a5b zr.tim T (by have := f.t.few; omega) a.n)) ?_; clear h;rintro _ K ⟨rfl, j⟩;obtain rfl := j.symm;rw [← f.t.armI, ← f.t.armE];refine ⟨(bL (bU (ig fun _ => rfl) bE)), fun h => ?_⟩;refine aj 7 5 h ?_;refine aK ?_;refine ci (fun B => ?_) fun B => ?_;refine ae ?_;refine ⟨_, ⟨Qak Value.bool (Qbx _), z, zr, FY g a.n, x, L, _, d, rfl, ⟨f.c, f.i, f.w, f.bx, f.rc, f.ri, f.rw, f.rb, f.ok.arm a.n, f.m, f.s, f.l, f.t.arm a.n (by omega), f.e⟩⟩, ?_⟩;unfold dW gA rA;rw [show di wb (zr, FY g a.n) = di wb (zr, g) from rfl];exact IO;exact absurd rfl B;obtain ⟨s, M⟩ : ∃ s, fk z.i g x.fr x.pg = s := ⟨_, rfl⟩
 have Y : fk zr.i g x.fr x.pg = s := by rw [f.ri, ← f.i]; exact M
 have Z : GOk z s.1.2 (N + 1) := by rw [← M]; exact f.ok.step f.m.fr
 have x0 : s.1.2.es.length ≤ 4096 := by rw [← M]; exact a6p f.e
 have x1 : GMem D.i ⟨s.2, x.pg, x.po⟩ := by rw [← M, f.i]; exact f.m.step f.ok.c F
 have hq : s.1.2.qa = g.qa ∧ s.1.2.qb = g.qb ∧ s.1.2.qc = g.qc := by rw [← M]; exact a6g
 refine ah (y4 GX rfl (BD W0 _ gb z g N x.fr x.pg hK hH f.ok (by omega) f.m.fr)) ?_;rw [M];refine aG rfl (y4 call72 rfl (a5D W0 _ wb zr g L T d x.fr x.pg f.m.pg f.m.fr f.ok.c I (by omega) f.l (by omega) f.t)) ?_;rintro _ K ⟨L2, T2, rfl, j, P, Q⟩;obtain rfl := j.symm;rw [Y] at P Q ⊢;refine aw ?_;refine ae ?_;refine ⟨_, ⟨Qak Value.bool (Qbx _), z, zr, s.1.2, ⟨s.2, x.pg, x.po⟩, L2, T2, d, rfl, ⟨f.c, f.i, f.w, f.bx, f.rc, f.ri, f.rw, f.rb, Z, x1, f.s, P, Q, x0⟩⟩, ?_⟩;unfold dW gA rA;rw [hq.1, hq.2.1, hq.2.2];exact IO
end
section
open Go.RowKit
theorem a6s a c sz : lu a c 0 sz = a := by
 unfold lu;split;rfl
 cases a with
 | none => rfl
 | some x => rw [Option.map_some, Nat.zero_mul]; rfl
def wN (e : Evt) : List Int := (List.range 16).map fun i => ((e.rl.getD i 0 : Nat) : Int)
theorem N0 e : ((List.range 16).map fun i => wV (e.rl.getD i 0)) = (wN e).map (Value.int .u32) := by
 rw [wN, Qcg]; rfl
theorem a6t e : nZ Tryz.prog 9 208 (.agg (eS e).toArray) (.agg (eS e).toArray) true := by
 have h := u7 (P := Tryz.prog) (xs := eS e) (ys := eS e) (z := 8) a7W Tryz.stoodInHeld208
   (lJ rfl db rfl rfl (lI jL) (lJ rfl db rfl rfl (lI jL) (lJ rfl lY rfl rfl (lI sx) (lJ rfl lY rfl rfl (lI sx) (lJ rfl lY rfl rfl (lI sx)
     (Hb rfl (Ha vm nY (by exact rfl : ((eS e).drop 5).take 16 = (List.range 16).map fun i => wV (e.rl.getD i 0))) (Ha vm nY (by exact rfl : ((eS e).drop 5).take 16 = (List.range 16).map fun i => wV (e.rl.getD i 0)))
       (y8 (i := Tryz.t46) (ms := wN e) (ns := wN e) zo (by kernel_rfl) (by kernel_rfl) sx lY (N0 e) (N0 e) (by simp [wN]) (by simp [wN])) u6))))))
 simpa using h
theorem a6u {S N e x y t' a b u} (c : a = eS u) (d : b = eS u) (f : ev e x = some (.agg a.toArray)) (g : ev e y = some (.agg b.toArray)) : bR Tryz.prog S N e (.binOp .neq 208 x y t') (.bool false) := by
 subst c; subst d;exact xd Tryz.eqGuardType208 f g (a6t u)
theorem a6v es a1 a2 q1 q2 (r : es.length < 1000000) (h : cF (aT W0 R) a1 21 eS es) (j : cF (aT W0 R) a2 21 eS es) : sQ W0 110 [.slice a1 es.length q1, .slice a2 es.length q2] R (.bool true) R := by
 refine am func110 ntmps110 ?_;refine aD rfl (fun l => ?_) fun l => ?_;omega;refine aw ?_;refine d7 (fun i : Nat => i ≤ es.length) (fun i => [(0, .slice a1 es.length q1), (1, .slice a2 es.length q2), (12, iQ (es.length : Nat)), (13, iQ i)]) (fun _ => R) (fun i => es.length - i) 0 ?_ ?_;exact QaK _;intro i s;refine aw ?_;refine ai (fun m => ?_) fun m => ?_;have a : i < es.length := by omega
 obtain ⟨g, o, e, f⟩ := h.at_ a;obtain ⟨n, p, c, d⟩ := j.at_ a;obtain ⟨x, q⟩ : ∃ x, es[i] = x := ⟨_, rfl⟩
 rw [q] at f d;refine eV [(g, o + i * 21, eS x), (n, p + i * 21, eS x)] 9 mixed rfl (bU f (bU d bE)) (fun b => ?_);refine aj 0 2 b ?_;refine az 2 b (eR lE qe rfl e rfl rfl a (by first | exact Qac _ | rfl)) ?_;refine az 3 b (gK NW qe rfl (j9 (k := 0) rfl) (tp x)) ?_;refine aj 4 2 b ?_;refine az 6 b (eR lE qe rfl c rfl rfl a (by first | exact Qac _ | rfl)) ?_;refine az 7 b (gK NW qe rfl (j9 (k := 1) rfl) (tp x)) ?_;refine az 8 b (a6u (u := x) rfl rfl rfl rfl) ?_;refine aK ?_;refine aa co ?_;exact bM (i + 1) (by omega);exact ae ap
theorem a6w es a1 a2 q1 q2 (a : es.length < 1000000) (b : cF (aT W0 R) a1 21 eS es) (c : cF (aT W0 R) a2 21 eS es) : sQ W0 37 [.slice a1 es.length q1, .slice a2 es.length q2] R (.bool true) R := by
 refine am func37 ntmps37 ?_;refine ah (aC call110 (a6v es a1 a2 q1 q2 a b c)) ?_;exact ae ap
theorem a6x es a c (r : es.length < 1000000) (f : cF (aT W0 R) a 21 eS es) : sP W0 191 [.slice a es.length c] R (fun v B => ∃ g i, v = .slice g es.length i ∧ B = osl 208 21 (.slice g es.length i) (es.flatMap eS) :: R) := by
 refine am func191 ntmps191 ?_;refine aa (xv lE rfl rfl) ?_;refine aD rfl (fun e => ?_) fun e => ?_;refine au 7 ?_;refine ae ?_;have j : es = [] := by
  rcases es with _ | ⟨x, l⟩;rfl;obtain ⟨b, o, h, _⟩ := f 0 x rfl;rw [e] at h; cases h
 subst j;exact ⟨_, ⟨none, 0, rfl, rfl⟩, fQ⟩;have d := f.src tp (fun _ => trivial);refine ii (aH (aQ (aY (aG rfl (ui lE qe rfl) ?_))));rintro _ _ ⟨s, rfl, rfl⟩;refine aw ?_
 refine aG rfl (Av (sz := 21) (by_ := 96) (info := Tryz.t208) lE (by kernel_rfl) rfl rfl rfl rfl (by decide) rfl rfl (news := es.flatMap eS) (by
 rcases d with h | ⟨k, m, n, p⟩;left; rw [h]; rfl
 right; exact ⟨k, m, n, p.weak⟩) (cQ tp es) (B9 a0o es) (by simp only [maxLen]; omega) (by omega)) ?_
 rintro _ _ ⟨q, e, rfl, rfl⟩;refine aw ?_;refine ae ?_;rw [Qac, Qax];exact ⟨_, ⟨q, e, rfl, rfl⟩, IO⟩
theorem a6y b es (h : es.length < 1000000) : sP W0 111 [pV b, iQ 0] (gx b es :: R) (fun v B => ∃ e f, v = .slice e es.length f ∧ B = osl 208 21 (.slice e es.length f) (es.flatMap eS) :: gx b es :: R) := by
 refine am func111 ntmps111 ?_;refine ah (ao NV (Ez b es)) ?_;refine AT (b := b) fun a c => ?_;refine mH (E := 208) (sz := 21) (a := a) (n := es.length) (c := c) eS es tp (by decide) rfl (fun j => ?_);refine bc [b] 15 fun d => ?_;refine aj 0 10 d ?_;refine az 10 d (sT rfl rfl (show _ = (0 : Int) by split <;> omega)) ?_;refine az 11 d (vX rfl rfl (show _ = (0 : Int) from rfl)) ?_;refine az 12 d (rU (i := 0) (a' := a) lE qe rfl rfl rfl (QaK _) (a6s a c 21)) ?_;refine bX 13 (aC call191 (a6x es a c h j)) ?_; clear d;rintro _ k ⟨e, f, rfl, g⟩;obtain rfl := g.symm;refine ⟨aV, fun d => ?_⟩;refine aj 14 1 d ?_;refine aK ?_;refine ae ?_;exact ⟨_, ⟨e, f, rfl, rfl⟩, Ent.cons (yi rfl rfl)⟩
theorem a6z b es (e : es.length < 1000000) : sP W0 39 [pV b] (gx b es :: R) (fun v B => ∃ a c, v = .slice a es.length c ∧ B = osl 208 21 (.slice a es.length c) (es.flatMap eS) :: gx b es :: R) := by
 refine am func39 ntmps39 ?_;refine aG rfl (ao call111 (a6y b es e)) ?_;rintro _ f ⟨a, c, rfl, d⟩;obtain rfl := d.symm;refine aw ?_;refine ae ?_;exact ⟨_, ⟨a, c, rfl, rfl⟩, IO⟩
theorem a6A gb z g (h : CsOk g.c.cs) : sQ W0 35 [pV gb] (pt gb (dC z g) :: pt z.x.c (en g.c.cs z.i) :: R) (.agg (g.c.cs.map wV).toArray) (pt gb (dC z g) :: pt z.x.c (en g.c.cs z.i) :: R) := by
 refine am func35 ntmps35 ?_;refine bi fun a => ?_;refine ah (ao mw (lU W0 _ gb z g)) ?_;refine ah (ao call109 (Ld z.x.c h)) ?_;refine av (fM rq rfl rfl (by rw [Qav, h.len]) (AR g.c.cs) rfl) ?_;exact aS (.cons (aX Cy rq rfl (by rw [Qav, h.len])) .nil) ap
theorem a6B b : sQ W0 112 [pV b] (pt b mZ :: R) (.bool false) (pt b mZ :: R) := by
 refine am func112 ntmps112 ?_;refine dj rfl rfl rfl (fun a => ?_) fun a => ?_;cases a;refine aw ?_;exact ae ap
theorem a6C b : sQ W0 41 [pV b] (pt b mZ :: R) (iQ (0 : Nat)) (pt b mZ :: R) := by
 refine am func41 ntmps41 ?_;refine ew 2 (ao call112 (a6B b)) ?_;refine aD rfl (fun a => ?_) fun a => ?_;exact absurd a (by decide);refine ii (aH (aQ (aY (ac rfl (aM rfl) (ac rfl (ik rfl) ?_)))));refine ac rfl (cD rfl a7D rfl G6 rfl (by first | exact Qac _ | rfl)) ?_;refine ac rfl (cg isAgg112 rfl (aJ rfl)) ?_;refine ac rfl (xe a71 rfl) (ac rfl (bj rfl) (aP (aH (dv (bK (.inl rfl) (.cons (aN rfl) .nil) ?_)))));exact ⟨_, ⟨rfl, rfl⟩, IO⟩
theorem a6D ps fr (i : cC fr) f (d : f < fr.length) : sP W0 47 [pQ ps, iQ f] (bB ps fr :: R) (fun v B => ∃ a c, v = .tuple #[.slice a 64 c, iQ 0] ∧ B = osl 5 1 (.slice a 64 c) (bO (fr.getD f [])) :: bB ps fr :: R) := by
 have e : ez fr.length (f : Int) = true := by simp only [ez, Qaj]; omega
 obtain ⟨b, n⟩ := i.get d;refine am func47 ntmps47 ?_;refine ah (ao wT (ut ps fr f)) ?_;refine ai (fun j => ?_) fun j => ?_;exact absurd j (by simp [e]);refine dK (uj (sz := 1) (by_ := 1) (info := Tryz.t5) lc (by kernel_rfl) rfl rfl rfl rfl (by decide) rfl rfl rfl rfl (by decide) (by decide)) fun l => ?_;refine uo (ps := ps) fun g => ?_;refine aw ?_;refine aa (bI d) ?_;refine aa (xw zt nX rfl) ?_
 refine aG rfl (uk lc nX rfl rfl (m := 64) (vs := bO (fr.getD f [])) rfl (cJ (A6 i d) (by rw [fD, b])) (by rw [fD, b]) (A1 _) (by decide) (by
 have := xg (bO (fr.getD f [])) (List.replicate (64 * 1) (.int .u8 0)) [] (by rw [fD, b]; simp)
 simpa using this)) ?_
 rintro _ o ⟨rfl, h⟩;obtain rfl := h.symm;refine aw ?_;refine aA ?_;exact ⟨_, ⟨some ⟨l, 0, none⟩, 64, rfl, rfl⟩, (HI (k := pM rfl rfl) (by simp only [maxLen]; omega) (by rw [fD, b]))⟩
section
variable {P : Program} {W0 : World} {N : FSz} {K : Act → World → Prop} {e : b0} {A B R R1 R2 R3 : List HP} {qs n : Nat} {fr : List aE}
theorem a6E [hk : Tk cH qs A fr R] {i} (f : i < fr.length) (h : ∀ a c b d, b.length = fr.length → b[i]? = some d →
      ax W0 N K e (pt qs (ag [.slice a fr.length c] 129) :: osl 130 1 (.slice a fr.length c) b :: osl 5 1 d (bO (fr.getD i [])) :: kH 2 (cu (((b.zip fr).map eY).eraseIdx i)) :: R)) : ax W0 N K e A :=
  xF (qs := qs) f fun a c b d g j => dr (Ent.cons (Ent.cons (Ent.cons qi))) (h a c b d g j)
theorem a6F {i c a vs vi ys} [h1 : Tk pt qs A (ag [.slice a n c] 129) R1] [h2 : Tk (osl 130 1) (.slice a n c) R1 vs R2] [h3 : Tk (osl 5 1) vi R2 ys R3]
    [h4 : Tk kH 2 R3 (cu (((vs.zip fr).map eY).eraseIdx i)) R] (hvi : vs[i]? = some vi) (hy : ys = bO (fr.getD i [])) (hv : vs.length = fr.length) (hn : n = fr.length) (hi : i < fr.length) (k : ax W0 N K e (cH qs fr :: R)) : ax W0 N K e A := by
 have hset : vs.set i vi = vs := by
  apply List.ext_getElem?
  intro j
  by_cases e : i = j
  subst e; rw [List.getElem?_set_self (by omega), hvi]
  rw [QaP e]
 have hfs : fr.set i (fr.getD i []) = fr := by
  apply List.ext_getElem?
  intro j
  by_cases e : i = j
  subst e; rw [List.getElem?_set_self hi]; simp [List.getD, hi]
  rw [QaP e]
 refine pF (h1.perm.trans ((h2.perm.trans ((h3.perm.trans (h4.perm.cons _)).cons _)).cons _)) ?_
 have e1 : Ent (pt qs (ag [.slice a n c] 129) :: osl 130 1 (.slice a n c) vs :: osl 5 1 vi ys :: kH 2 (cu (((vs.zip fr).map eY).eraseIdx i)) :: R) (cH qs fr :: R) := by
  refine (Ent.cons (Ent.cons (Ent.cons qg))).trans ?_
  have := @Ir (pt qs (ag [.slice a n c] 129) :: osl 130 1 (.slice a n c) vs :: osl 5 1 vi ys :: (((vs.zip fr).map eY).eraseIdx i ++ R)) R _ _ qs n fr a c i vs vi (fr.getD i []) ys R CM (by rw [hset]; exact CM) CM hy hv hn hi ent_refl
  rwa [hfs] at this
 exact dr e1 k
end
end
section
open Go.RowKit
set_option maxRecDepth 20000
set_option synthInstance.maxSize 2000
set_option synthInstance.maxHeartbeats 1000000
attribute [local irreducible] cN dq
section
variable (W0 : World) (R : List HP) (bm pv ps pm bud : Nat) (fr : List aE) (pg : List Pl)
theorem a6G : sQ W0 43 [pV pv] (iB bm ⟨pv, ps, pm, bud, fr, pg⟩ :: R) (pV pm) (iB bm ⟨pv, ps, pm, bud, fr, pg⟩ :: R) := by
 refine r9 fun c e a T L b d f g h i => ?_;refine ul (B := pt pv (cB ps pm d) :: pt bm (cX pv c e) :: aZ c (a, dx 4 b) :: bQ e L :: pt pm (bN pg) :: R) inferInstance ?_;refine iH (rK pv ps pm d) fun v B j => ?_;obtain ⟨rfl, rfl⟩ := j;exact ⟨_, ⟨rfl, rfl⟩, Ent.trans (B := pt bm (cX pv c e) :: aZ c (a, dx 4 b) :: bQ e L :: pt pv (cB ps pm d) :: pt pm (bN pg) :: R) inferInstance (pq f g h i)⟩
theorem a6H : sQ W0 46 [pV pv] (iB bm ⟨pv, ps, pm, bud, fr, pg⟩ :: R) (pV ps) (iB bm ⟨pv, ps, pm, bud, fr, pg⟩ :: R) := by
 refine r9 fun c e a T L b d f g h i => ?_;refine ul (B := pt pv (cB ps pm d) :: pt bm (cX pv c e) :: aZ c (a, dx 4 b) :: bQ e L :: pt pm (bN pg) :: R) inferInstance ?_;refine iH (Aa pv ps pm d) fun v B j => ?_;obtain ⟨rfl, rfl⟩ := j;exact ⟨_, ⟨rfl, rfl⟩, Ent.trans (B := pt bm (cX pv c e) :: aZ c (a, dx 4 b) :: bQ e L :: pt pv (cB ps pm d) :: pt pm (bN pg) :: R) inferInstance (pq f g h i)⟩
theorem a6I n : sQ W0 44 [pV pm, iQ n] (iB bm ⟨pv, ps, pm, bud, fr, pg⟩ :: R) (.tuple #[.agg (g7 (bJ pg n)).toArray, .bool (aW pg n)]) (iB bm ⟨pv, ps, pm, bud, fr, pg⟩ :: R) := by
 refine r9 fun c e a T L b d g h i f => ?_;refine ul (B := pt pm (bN pg) :: pt bm (cX pv c e) :: aZ c (a, dx 4 b) :: bQ e L :: pt pv (cB ps pm d) :: R) inferInstance ?_;refine iH (sZ pm pg f.P n) fun v B j => ?_;obtain ⟨rfl, rfl⟩ := j;exact ⟨_, ⟨rfl, rfl⟩, Ent.trans (B := pt bm (cX pv c e) :: aZ c (a, dx 4 b) :: bQ e L :: pt pv (cB ps pm d) :: pt pm (bN pg) :: R) inferInstance (pq g h i f)⟩
end
theorem a6J {W0 N K e A R} {E sz : Nat} {v xs} [hk : Tk (osl E sz) v A xs R] (h : ∀ a n c, v = .slice a n c → xs.length = n * sz → ax W0 N K e A) : ax W0 N K e A := fun a w i b => by
 rcases (b.perm hk.perm).osl with ⟨d, j, k⟩ | ⟨g, n, f, m, d, j, k, l, o, p⟩;exact h none 0 0 d (by rw [j]; simp) a w i b;exact h (some ⟨g, 0, none⟩) n f d l a w i b
theorem a6K {W0 N K e A R qs fr} [hk : Tk cH qs A fr R] (h : ∀ a c b, b.length = fr.length → ax W0 N K e (pt qs (ag [.slice a fr.length c] 129) :: osl 130 1 (.slice a fr.length c) b :: kH 2 (cu ((b.zip fr).map eY)) :: R)) : ax W0 N K e A :=
  uw (qs := qs) fun a c b d => dr (Ent.cons (Ent.cons qi)) (h a c b d)
theorem N1 {R qs c a fr vs} (b : vs.length = fr.length) : Ent (pt qs (ag [.slice a fr.length c] 129) :: osl 130 1 (.slice a fr.length c) vs :: kH 2 (cu ((vs.zip fr).map eY)) :: R) (cH qs fr :: R) :=
  (Ent.cons (Ent.cons (show Ent (cu ((vs.zip fr).map eY) :: R) _ from qg))).trans (t2 (vs := vs) b rfl)
abbrev sW (gb wb wg : Nat) (z : Gz) (zr : Rz) (g : Gu) (x : Mm) (L : List Nat) (T : List (Int × Int)) (d : Nat) (wl : List Nat) (R : List HP) : List HP :=
  di wb (zr, g) :: gA gb z g x (cW z.pb (z.ps, x.po) :: bB z.ps x.fr :: pt wg (ag (wl.map wV) 46) :: pt zr.r (cI g.c.rl g.c.pc) :: pt zr.c (d9 g.c.cs zr.i) :: dO zr.vic L :: dF zr.tim T :: pt zr.v (g8 zr.ps zr.pm d) :: cH zr.ps x.fr :: pt zr.pm (dN x.pg) :: dE zr.pl (zr.ps, x.po) :: pt z.bx mZ :: pt zr.bx (ag [ek] 114) :: R)
theorem a6L W0 R gb wb wg z zr g x L T d wl (hc : CpOk g.c) (hF : cC x.fr) (hP : Pgs x.pg) (h32 : x.fr.length ≤ 32) (hes : g.es.length < 1000000) : sQ W0 8 [pV gb, pV wb] (sW gb wb wg z zr g x L T d wl R) (.bool true) (sW gb wb wg z zr g x L T d wl R) := by
 have h : g.c.rl.length = 16 := hc.r.len
 have D : g.c.cs.length = 7 := hc.cs.len
 refine kS func8 ntmps8 rfl rfl ?_
 refine aQ (aY (ac rfl (bj rfl) (aP (aH (aQ (aQ ?_))))))
 refine pB (b := wb) fun ar cr => ?_
 refine eV [(wb, 0, _), (zr.r, 0, _), (zr.c, 0, _), (zr.bx, 0, _)] 77 mixed rfl (bL (bL (bL (bL bE)))) (fun e => ?_)
 refine bu 0 rfl rfl rfl e (aM rfl) ?_
 refine bu 2 rfl rfl rfl e (aM rfl) ?_
 refine bu 3 rfl rfl rfl e (ik rfl) ?_
 refine bu 4 rfl rfl rfl e (cD rfl mr rfl G8 rfl (by first | exact Qac _ | rfl)) ?_
 refine bu 5 rfl rfl rfl e (cg N7 rfl (by first | exact cp (k := 0) rfl rfl | exact cp (k := 1) rfl rfl | exact cp (k := 2) rfl rfl | exact cp (k := 3) rfl rfl)) ?_
 refine bu 6 rfl rfl rfl e (ik rfl) ?_
 refine bu 7 rfl rfl rfl e (cD rfl Ci rfl nY rfl (by first | exact Qac _ | rfl)) ?_
 refine az 8 e (gK vm nY rfl (uQ (us := g.c.rl.map wV) (ws := [wV g.c.pc]) (j9 (k := 1) rfl) rfl) (by rw [Qav, h])) ?_
 refine bG 1 (cA Oq (Fx W0 _ gb z g h)) fun e => ?_
 refine az 9 e (xd Tryz.eqGuardType51 rfl rfl (y8 (i := Tryz.t46) (ms := g.c.rl.map Int.ofNat) (ns := g.c.rl.map Int.ofNat) zo (by kernel_rfl) (by kernel_rfl) sx lY (by rw [Qcg]; rfl) (by rw [Qcg]; rfl) (by rw [Qav]; exact h) (by rw [Qav]; exact h))) ?_
 refine bu 10 rfl rfl rfl e (aM rfl) ?_
 refine ja (t := 23) rfl ?_ ?_
 intro j
 exact absurd j (by simp)
 intro j
 refine bu 11 rfl rfl rfl e (aM rfl) ?_
 refine bu 13 rfl rfl rfl e (aM rfl) ?_
 refine bu 14 rfl rfl rfl e (ik rfl) ?_
 refine bu 15 rfl rfl rfl e (cD rfl mr rfl G8 rfl (by first | exact Qac _ | rfl)) ?_
 refine bu 16 rfl rfl rfl e (cg N7 rfl (by first | exact cp (k := 0) rfl rfl | exact cp (k := 1) rfl rfl | exact cp (k := 2) rfl rfl | exact cp (k := 3) rfl rfl)) ?_
 refine bu 17 rfl rfl rfl e (ik rfl) ?_
 refine bu 18 rfl rfl rfl e (cD rfl Ci rfl aU rfl (by first | exact Qac _ | rfl)) ?_
 refine az 19 e (aF (cp (k := 1) rfl (lW h))) ?_
 refine bG 12 (cA call14 (Mj W0 _ gb z g h)) fun e => ?_
 refine bu 20 rfl rfl rfl e (mB rfl rfl) ?_
 refine bu 21 rfl rfl rfl e (fp rfl rfl) ?_
 refine bu 22 rfl rfl rfl e (aM rfl) ?_
 refine ja (t := 35) rfl ?_ ?_
 intro l
 exact absurd l (by simp)
 intro l
 refine bu 23 rfl rfl rfl e (aM rfl) ?_
 refine bu 25 rfl rfl rfl e (aM rfl) ?_
 refine bu 26 rfl rfl rfl e (ik rfl) ?_
 refine bu 27 rfl rfl rfl e (cD rfl mr rfl Nn rfl (by first | exact Qac _ | rfl)) ?_
 refine bu 28 rfl rfl rfl e (cg isAgg86 rfl (by first | exact cp (k := 0) rfl rfl | exact cp (k := 1) rfl rfl | exact cp (k := 2) rfl rfl | exact cp (k := 3) rfl rfl)) ?_
 refine bu 29 rfl rfl rfl e (ik rfl) ?_
 refine bu 30 rfl rfl rfl e (cD rfl a7y rfl rq rfl (by first | exact Qac _ | rfl)) ?_
 refine az 31 e (gK Cy rq rfl (uQ (us := g.c.cs.map wV) (ws := [iQ zr.i]) (j9 (k := 2) rfl) rfl) (by rw [Qav, D])) ?_
 refine bG 24 (cA call35 (a6A gb z g hc.cs)) fun e => ?_
 refine az 32 e (xd Tryz.eqGuardType102 rfl rfl (y8 (i := Tryz.t46) (ms := g.c.cs.map Int.ofNat) (ns := g.c.cs.map Int.ofNat) iP (by kernel_rfl) (by kernel_rfl) sx lY (by rw [Qcg]; rfl) (by rw [Qcg]; rfl) (by rw [Qav]; exact D) (by rw [Qav]; exact D))) ?_
 refine bu 33 rfl rfl rfl e (fp rfl rfl) ?_
 refine bu 34 rfl rfl rfl e (aM rfl) ?_
 refine ja (t := 47) rfl ?_ ?_
 intro o
 exact absurd o (by simp)
 intro o
 refine bu 35 rfl rfl rfl e (aM rfl) ?_
 refine bu 37 rfl rfl rfl e (aM rfl) ?_
 refine bu 38 rfl rfl rfl e (ik rfl) ?_
 refine bu 39 rfl rfl rfl e (cD rfl mr rfl aR rfl (by first | exact Qac _ | rfl)) ?_
 refine bu 40 rfl rfl rfl e (cg db rfl (by first | exact cp (k := 0) rfl rfl | exact cp (k := 1) rfl rfl | exact cp (k := 2) rfl rfl | exact cp (k := 3) rfl rfl)) ?_
 refine bG 36 (ao call15 (Mi W0 _ gb z g)) fun e => ?_
 refine bu 41 rfl rfl rfl e (mB rfl rfl) ?_
 refine bu 42 rfl rfl rfl e (fp rfl rfl) ?_
 refine bu 43 rfl rfl rfl e (aM rfl) ?_
 refine ja (t := 56) rfl ?_ ?_
 intro q
 exact absurd q (by simp)
 intro q
 refine bu 44 rfl rfl rfl e (aM rfl) ?_
 refine bu 46 rfl rfl rfl e (aM rfl) ?_
 refine bu 47 rfl rfl rfl e (ik rfl) ?_
 refine bu 48 rfl rfl rfl e (cD rfl mr rfl gO rfl (by first | exact Qac _ | rfl)) ?_
 refine bu 49 rfl rfl rfl e (cg nj rfl (by first | exact cp (k := 0) rfl rfl | exact cp (k := 1) rfl rfl | exact cp (k := 2) rfl rfl | exact cp (k := 3) rfl rfl)) ?_
 refine bG 45 (ao call36 (a4I W0 _ gb z g)) fun e => ?_
 refine bu 50 rfl rfl rfl e (H8 Gg rfl rfl) ?_
 refine bu 51 rfl rfl rfl e (fp rfl rfl) ?_
 refine bu 52 rfl rfl rfl e (aM rfl) ?_
 refine ja (t := 65) rfl ?_ ?_
 intro s
 exact absurd s (by simp)
 intro s
 refine bu 53 rfl rfl rfl e (aM rfl) ?_
 refine bu 56 rfl rfl rfl e (aM rfl) ?_
 refine bu 57 rfl rfl rfl e (ik rfl) ?_
 refine bu 58 rfl rfl rfl e (cD rfl mr rfl Ce rfl (by first | exact Qac _ | rfl)) ?_
 refine bu 59 rfl rfl rfl e (cg G5 rfl (by first | exact cp (k := 0) rfl rfl | exact cp (k := 1) rfl rfl | exact cp (k := 2) rfl rfl | exact cp (k := 3) rfl rfl)) ?_
 refine bG 54 (ao call38 (a4G W0 _ gb z g)) fun e => ?_
 refine bX 55 (ao call39 (a6z z.tr g.es hes)) ?_; clear e
 rintro _ B_ ⟨I, N, rfl, F⟩
 obtain rfl := F.symm
 refine ⟨aV, fun e => ?_⟩
 refine bG 60 (aC call37 (HK (E := 208) (sz := 21) (n := g.es.length) (a := I) (c := N) eS g.es tp (by decide) rfl fun h1 => HK (E := 208) (sz := 21) (n := g.es.length) (a := ar) (c := cr) eS g.es tp (by decide) rfl fun V => a6w g.es I ar N cr hes h1 V)) fun e => ?_
 refine bu 61 rfl rfl rfl e (qk rfl) ?_
 refine bu 62 rfl rfl rfl e (fp rfl rfl) ?_
 refine bu 63 rfl rfl rfl e (aM rfl) ?_
 refine ja (t := 76) rfl ?_ ?_
 intro u
 exact absurd u (by simp)
 intro u
 refine bu 64 rfl rfl rfl e (aM rfl) ?_
 refine bu 67 rfl rfl rfl e (aM rfl) ?_
 refine bu 68 rfl rfl rfl e (ik rfl) ?_
 refine bu 69 rfl rfl rfl e (cD rfl mr rfl NY rfl (by first | exact Qac _ | rfl)) ?_
 refine bu 70 rfl rfl rfl e (cg isAgg97 rfl (by first | exact cp (k := 0) rfl rfl | exact cp (k := 1) rfl rfl | exact cp (k := 2) rfl rfl | exact cp (k := 3) rfl rfl)) ?_
 refine bu 71 rfl rfl rfl e (ik rfl) ?_
 refine bu 72 rfl rfl rfl e (cD rfl a70 rfl G6 rfl (by first | exact Qac _ | rfl)) ?_
 refine bu 73 rfl rfl rfl e (cg isAgg112 rfl (by first | exact cp (k := 0) rfl rfl | exact cp (k := 1) rfl rfl | exact cp (k := 2) rfl rfl | exact cp (k := 3) rfl rfl)) ?_
 refine bu 74 rfl rfl rfl e (xe a71 rfl) ?_
 refine bG 65 (ao call40 (a4H W0 _ gb z g)) fun e => ?_
 refine bG 66 (ao call41 (a6C z.bx)) fun e => ?_
 refine bu 75 rfl rfl rfl e (mB rfl rfl) ?_
 refine bu 76 rfl rfl rfl e (fp rfl rfl) ?_
 refine aK ?_
 refine ai (fun c1 => ?_) fun c1 => ?_
 exact absurd c1 (by simp)
 refine dr (B := sW gb wb wg z zr g x L T d wl R) (eD rfl rfl) ?_
 refine aw ?_
 refine d7 (fun p : Nat => p ≤ 12) (fun p => [(0, pV gb), (1, pV wb), (5, iQ p)]) (fun _ => sW gb wb wg z zr g x L T d wl R) (fun p => 12 - p) 0 ?_ ?_
 exact QaK _
 intro p hp
 refine aw ?_
 refine ai (fun c4 => ?_) fun c4 => ?_
 refine ah (ao Ot (Fy W0 _ gb z g)) ?_
 refine ah (ao tU (a6G W0 _ z.x.m z.pv z.ps z.pm g.bud x.fr x.pg)) ?_
 refine ah (ao vl (a6I W0 _ z.x.m z.pv z.ps z.pm g.bud x.fr x.pg p)) ?_
 refine bi fun b6 => ?_
 refine av aB ?_
 refine aa (aF (mq fun _ => rfl)) ?_
 refine ah (ao sB (qC zr.pm x.pg hP p)) ?_
 refine bi fun b8 => ?_
 refine av aB ?_
 refine aa (xd Tryz.eqGuardType116 rfl rfl (u7 su Tryz.stoodInHeld116 (lJ rfl db rfl rfl (lI jL) (lJ rfl db rfl rfl (lI jL) u6)))) ?_
 refine cv (fun C => ?_) fun C => ?_
 exact absurd C (by simp)
 refine ai (fun c8 => ?_) fun c8 => ?_
 exact absurd c8 (by simp)
 refine aa co ?_
 exact bM (p + 1) (by omega)
 refine d7 (fun f : Nat => f ≤ x.fr.length) (fun f => [(0, pV gb), (1, pV wb), (10, iQ f)]) (fun _ => sW gb wb wg z zr g x L T d wl R) (fun f => x.fr.length - f) 0 ?_ ?_
 exact QaK _
 intro f hf
 refine a6K (qs := zr.ps) fun J K G U => ?_
 refine aw ?_
 refine aa (aF (mq fun _ => rfl)) ?_
 refine ai (fun W => ?_) fun W => ?_
 have w : f < x.fr.length := by omega
 obtain ⟨y, x0⟩ := hF.get w
 refine dr (B := sW gb wb wg z zr g x L T d wl R) (Ent.trans (B := pt zr.ps (ag [.slice J x.fr.length K] 129) :: osl 130 1 (.slice J x.fr.length K) G :: kH 2 (cu ((G.zip x.fr).map eY)) :: di wb (zr, g) :: gA gb z g x (cW z.pb (z.ps, x.po) :: bB z.ps x.fr :: pt wg (ag (wl.map wV) 46) :: pt zr.r (cI g.c.rl g.c.pc) :: pt zr.c (d9 g.c.cs zr.i) :: dO zr.vic L :: dF zr.tim T :: pt zr.v (g8 zr.ps zr.pm d) :: pt zr.pm (dN x.pg) :: dE zr.pl (zr.ps, x.po) :: pt z.bx mZ :: pt zr.bx (ag [ek] 114) :: R)) inferInstance ((N1 U).trans inferInstance)) ?_
 refine aw ?_
 refine ah (ao Ot (Fy W0 _ gb z g)) ?_
 refine ah (ao GO (a6H W0 _ z.x.m z.pv z.ps z.pm g.bud x.fr x.pg)) ?_
 refine aG rfl (ao call47 (a6D z.ps x.fr hF f w)) ?_
 rintro _ B_ ⟨I, N, rfl, F⟩
 obtain rfl := F.symm
 refine aw ?_
 refine a6E (qs := zr.ps) w fun J K G vi U H => ?_
 refine a6J (E := 5) (sz := 1) (v := vi) fun M n3 O e3 l3 => ?_
 subst e3
 obtain rfl : n3 = 64 := by rw [fD, y] at l3; omega
 refine mH (E := 130) (sz := 1) (a := J) (n := x.fr.length) (c := K) (fun v => [v]) G (fun _ => rfl) (by decide) (by simp) fun V => ?_
 refine rG (E := 5) (sz := 1) (a := I) (c := N) (n := 64) (fun P => ?_)
 refine rG (E := 5) (sz := 1) (a := M) (c := O) (n := 64) (fun X => ?_)
 obtain ⟨g2, o2, Y, Q⟩ := V.at_ (i := f) (by omega)
 have Z : G[f]'(by omega) = .slice M 64 O := by
  rw [QaR (by omega)] at H
  exact Qbg H
 rw [Z] at Q
 refine eV [(wb, 13, [pV zr.v]), (zr.v, 0, _), (zr.ps, 0, _), (g2, o2 + f * 1, [.slice M 64 O]), (xz I, 0, bO (x.fr.getD f [])), (xz M, 0, bO (x.fr.getD f []))] 21 mixed rfl (bU (ig fun _ => rfl) (bL (bL (bU Q (bU (vH (E := 5) (sz := 1) (a := I) (c := N) (n := 64)) (bU (vH (E := 5) (sz := 1) (a := M) (c := O) (n := 64)) bE)))))) (fun e => ?_)
 refine aj 0 3 e ?_
 refine ja (t := 147) rfl ?_ ?_
 intro A
 exact absurd A (by decide)
 intro A
 refine aj 3 1 e ?_
 refine az 4 e (Jz lc G2 O1 rfl y (Dh P (j9 (k := 4) rfl) (fun _ => rfl) (Ee _).symm (by decide))) ?_
 refine aj 5 3 e ?_
 refine az 8 e (aF (ko (k := 0) rfl)) ?_
 refine aj 9 7 e ?_
 refine az 16 e (eR vh C9 rfl Y rfl rfl w (by first | exact Qac _ | rfl)) ?_
 refine az 17 e (aF (ko (k := 3) rfl)) ?_
 refine az 18 e (Jz lc G2 O1 rfl y (Dh X (j9 (k := 5) rfl) (fun _ => rfl) (Ee _).symm (by decide))) ?_
 refine az 19 e (OC rfl rfl) ?_
 refine aj 20 1 e ?_
 refine aK ?_
 refine ai (fun S => ?_) fun S => ?_
 exact absurd S (by simp)
 refine a6F (qs := zr.ps) (fr := x.fr) (i := f) (vi := .slice M 64 O) H rfl U rfl w ?_
 refine aw ?_
 refine aa co ?_
 exact bM (f + 1) (by omega)
 refine ae ?_
 exact ⟨_, ⟨rfl, rfl⟩, Ent.trans (B := pt zr.ps (ag [.slice J x.fr.length K] 129) :: osl 130 1 (.slice J x.fr.length K) G :: kH 2 (cu ((G.zip x.fr).map eY)) :: di wb (zr, g) :: gA gb z g x (cW z.pb (z.ps, x.po) :: bB z.ps x.fr :: pt wg (ag (wl.map wV) 46) :: pt zr.r (cI g.c.rl g.c.pc) :: pt zr.c (d9 g.c.cs zr.i) :: dO zr.vic L :: dF zr.tim T :: pt zr.v (g8 zr.ps zr.pm d) :: pt zr.pm (dN x.pg) :: dE zr.pl (zr.ps, x.po) :: pt z.bx mZ :: pt zr.bx (ag [ek] 114) :: R)) inferInstance ((N1 U).trans inferInstance)⟩
end
section
open Go.RowKit
set_option maxRecDepth 20000
set_option synthInstance.maxSize 2000
set_option synthInstance.maxHeartbeats 1000000
attribute [local irreducible] cN dq
theorem a6M po i : (cm po i).length ≤ oG i po := by
 unfold cm oG;rw [← List.countP_eq_length_filter, ← List.countP_eq_length_filter];refine List.countP_mono_left fun f _ h => ?_;rw [eq_of_beq h];exact Qbx _
abbrev a6N (zb br : Nat) (R : List HP) : List HP := pt zb mZ :: pt br (ag [ek] 114) :: R
theorem a6O W0 (hK : ∀ A, bF (aT W0 A) 1 0 jj) (hH : ∀ A, bF (aT W0 A) 0 0 l6) (b f : Nat) (hp : b < 256) (x7 : f < 256) ib aw ab cw cb ws as_ (x8 : vC W0 aw 1 j6 ws) (Q : ∀ y ∈ ws, y < 4294967296) (R : ws.length < 9223372036854775808) (S : ws.length ≤ cw) (x9 : vC W0 ab 3 rp as_) (xa : ∀ a ∈ as_, a.w < 4294967296) (xq : as_.length < 9223372036854775808) : sP W0 4 [.int .u8 b, .int .u8 f, .bool ib, .slice aw ws.length cw, .slice ab as_.length cb] [] (fun v B => v = .bool true) := by
 have hP := Mn b;have hS := a4Q b f;obtain ⟨i, xb⟩ : ∃ i : Nat, i = if ib then 1 else 0 := ⟨_, rfl⟩
 have xc : i < 2 := by rw [xb]; split <;> decide
 refine jq 10 Ou ntmps4 ?_;refine dw (fun _ : Unit => True) (fun _ => [(0, .int .u8 b), (1, .int .u8 f), (3, .slice aw ws.length cw), (4, .slice ab as_.length cb), (11, iQ i)]) (fun _ => []) ?_ ?_;refine au 5 ?_;refine ai (fun c2 => ?_) fun c2 => ?_;obtain rfl : i = 1 := by cases ib <;> simp_all
 exact bY () trivial;obtain rfl : i = 0 := by cases ib <;> simp_all
 exact bY () trivial;intro _ _;refine au 4 ?_;refine aG rfl (aC call10 (Mp b f hp x7)) ?_;rintro _ B_ ⟨b1, b2, b3, rfl, l⟩;obtain rfl := l.symm;refine MW (fun v _ => v = .bool true) (fun v B hv => ⟨[], hv, MY (A := [_, _, _])⟩) fun W P => ?_;have p := Mo (lV b) (by omega) hP.1 (se b f) (by omega) hS b1 b2 b3;have H : CfK W (py (lV b) (se b f) b1 b2 b3) := Mq P;have q : ∀ A, cF (aT W A) aw 1 j6 ws := w7 P (HM x8);have U : ∀ A, cF (aT W A) ab 3 rp as_ := w7 P (HM x9);have V := y7 P (hK _);have X := y7 P (hH _);clear P;obtain ⟨j, F⟩ : ∃ c, py (lV b) (se b f) b1 b2 b3 = c := ⟨_, rfl⟩
 have r : i < j.gl.length := by rw [← F]; exact xc
 rw [F] at p H;rw [F];have hM := FF p r ws;have hR := lx p;have xr := Ev hR r;have xs := hR.nd;have xt := hR.gs i r;have xu := a6M (eH j (cM j)) i;have I := a6h j i ws (List.replicate (cM j) cR) (eH j (cM j));obtain ⟨n, hn⟩ : ∃ n : Nat, (dh j i).2.1 = (n : Int) := ⟨(dh j i).2.1.toNat, by omega⟩
 refine au 2 ?_;refine aG rfl (aC call6 (MV j H p i r aw cw ws q Q R S)) ?_;rintro _ B_ ⟨J, Y, wg, K, s, rfl, xd, xe, xf, xg, xh, xi, l⟩;obtain rfl := l.symm;obtain ⟨M, x1⟩ : ∃ x, ka j i ws (List.replicate (cM j) cR) (eH j (cM j)) = x := ⟨_, rfl⟩
 rw [x1] at hM I ⊢;have xj : 0 < M.po.length := by
  rw [I.1];show 0 < (eH j (cM j)).length;rw [pT, cM];omega
 have x3 : n ≤ oG i M.po := by
  rw [I.par];show n ≤ oG i (eH j (cM j));omega
 obtain ⟨D, hD⟩ : ∃ D : Dg W, D = ⟨j, i, n, wg, bz ws 8, aw, cw, ws, M, Y.bx, s.bx, H, p, r, hn, x3, xj, rfl, q, Q, R, S⟩ := ⟨_, rfl⟩
 have t : D.wg = wg ∧ D.wl = bz ws 8 ∧ D.bx = Y.bx ∧ D.br = s.bx := by rw [hD]; exact ⟨rfl, rfl, rfl, rfl⟩
 have xk : DInv D 0 Y s g0 M [] [] := by
  rw [hD];exact ⟨xd, xe, xf, rfl, xg, xh, xi, rfl, GOk.new (by omega), hM, l9.rfl' M, LRel.new, TRel.new, QaK _⟩
 obtain ⟨RR, N⟩ : ∃ RR, RR = a6N D.bx D.br [] := ⟨_, rfl⟩
 refine dr (B := dW J K D.wg Y s g0 M [] [] 0 D.wl RR) (by rw [N, t.1, t.2.1, t.2.2.1, t.2.2.2]; exact inferInstance) ?_;clear x1 F q hD t;refine au 18 ?_;refine dj rfl rfl rfl (fun u => ?_) fun u => ?_
 first | cases u | exact absurd u (by simp)
 refine au 5 ?_;refine dj rfl rfl rfl (fun C => ?_) fun C => ?_
 first | cases C | exact absurd C (by simp)
 refine au 6 ?_;refine aD rfl (fun c5 => ?_) fun c5 => ?_
 first | cases c5 | exact absurd c5 (by simp)
 refine au 2 ?_;refine dw (fun _ : Unit => True) (fun _ => []) (fun _ => []) ?_ ?_;refine au 6 ?_;refine d7 (fun Z : Nat × Gz × Rz × Gu × Mm × List Nat × List (Int × Int) × Nat => Z.1 ≤ 80 ∧ DInv D Z.1 Z.2.1 Z.2.2.1 Z.2.2.2.1 Z.2.2.2.2.1 Z.2.2.2.2.2.1 Z.2.2.2.2.2.2.1) (fun Z => [(4, .slice ab as_.length cb), (12, pV J), (13, pV K), (16, iQ Z.1)]) (fun Z => dW J K D.wg Z.2.1 Z.2.2.1 Z.2.2.2.1 Z.2.2.2.2.1 Z.2.2.2.2.2.1 Z.2.2.2.2.2.2.1 Z.2.2.2.2.2.2.2 D.wl RR) (fun Z => 80 - Z.1) (0, Y, s, g0, M, [], [], 0) ?_ ?_;exact ⟨QaK _, xk⟩;intro ⟨k, z, zr, g, x, L, T, d⟩ ⟨hk, hI⟩;dsimp only at hk hI ⊢;refine au 8 ?_;refine ci (fun x4 => ?_) fun x4 => ?_;refine ai (fun c8 => ?_) fun c8 => ?_;have O : k < as_.length := by omega
 have xp : k < 80 := by omega
 obtain ⟨ga, o, xl, hc⟩ := (U []).at_ O;obtain ⟨a, ha⟩ : ∃ a, as_[k] = a := ⟨_, rfl⟩
 have x5 := xa _ (QaF O);rw [ha] at hc x5;refine aa (eR Nw sizeOf48 rfl xl rfl rfl O (by first | exact Qac _ | rfl)) ?_;refine aa (dt hc.weak) ?_;refine aG rfl (aC call11 (a6r V X D J K k (by omega) z zr g x L T d hI a x5)) ?_;rintro _ B_ ⟨rfl, z2, G, g2, x2, L2, T2, d2, l, h⟩;obtain rfl := l.symm;have xm := h.m.pg;have xn : x2.fr.length ≤ 32 := by have := h.m.len; have := h.m.po.len; omega
 have xo : g2.es.length < 1000000 := by have := h.e; omega
 refine dr (B := sW J K D.wg z2 G g2 x2 L2 T2 d2 D.wl []) (by rw [N, ← h.bx, ← h.rb]; exact inferInstance) ?_;refine au 2 ?_;refine cv (fun E => ?_) fun E => ?_;exact absurd E (by simp);refine ah (aC call8 (a6L W [] J K D.wg z2 G g2 x2 L2 T2 d2 D.wl h.ok.c h.m.fr xm xn xo)) ?_;refine dr (B := dW J K D.wg z2 G g2 x2 L2 T2 d2 D.wl RR) (by rw [N, ← h.bx, ← h.rb]; exact inferInstance) ?_;refine au 5 ?_;refine ai (fun x6 => ?_) fun x6 => ?_;exact absurd x6 (by simp);refine aa co ?_;exact bM (k + 1, z2, G, g2, x2, L2, T2, d2) (⟨by omega, h⟩);exact bY () trivial;exact bY () trivial;intro _ _;refine au 2 ?_;refine ah (aC call5 (a6d V X)) ?_;refine ae ?_;exact ⟨[], rfl, IO⟩
end
section
open Go.RowKit
section
variable {P : Program} {w : World} {enc : TypeId × Value → Unit} {base : Nat} {sp : Nat → Bool} {held : Bool}
theorem G1 {c t cs a b f0 f1 p} (m : P.underlying t = some (.struct #[f0, f1])) (n : P.underlying f0.type = some (.int .i64)) (o : P.underlying f1.type = some (.int .i64)) (q : f0.offset = 0) (r : f1.offset = 1) (s : P.cellsOf f0.type = 1) (x : P.cellsOf f1.type = 1) (y : P.cellsOf t = 2)
    (h : DataW.trod enc P w base sp held c t cs = some (.agg [.lit (.int .i64 a), .lit (.int .i64 b)], p)) : cs = [.int .i64 a, .int .i64 b] := by
 cases c with
 | zero => simp [DataW.trod] at h
 | succ c =>
  simp only [DataW.trod, m] at h;split at h
  rename_i j
  rw [y] at j;obtain ⟨z, f, A⟩ := Option.map_eq_some_iff.1 h;obtain ⟨D, k, B⟩ := QcU f 0 f0 rfl;obtain ⟨E, l, C⟩ := QcU f 1 f1 rfl;obtain ⟨F, g, rfl, _⟩ := DataW.trod_int n B;obtain ⟨G, i, rfl, _⟩ := DataW.trod_int o C;rw [q, s] at g;rw [r, x] at i
  match cs, j with
  | [u, v], _ =>
   simp at g i;have d := Qak Prod.fst A;have e := Go.Lib.mapM_length f
   match z, e with
   | [H, I], _ =>
    simp at k l;subst k; subst l;simp at d;rw [g, i, d.1, d.2]
  cases h
theorem a6P {a t e cs f0 f1 p} (y : P.underlying t = some (.array 3 e)) (k : P.underlying e = some (.struct #[f0, f1])) (l : P.underlying f0.type = some (.int .i64)) (m : P.underlying f1.type = some (.int .i64)) (n : f0.offset = 0) (o : f1.offset = 1) (q : P.cellsOf f0.type = 1) (r : P.cellsOf f1.type = 1) (d : P.cellsOf e = 2) (z : P.cellsOf t = 6)
    (h : DataW.trod enc P w base sp held a t cs = some (.agg [.agg [.lit (.int .i64 0), .lit (.int .i64 4)], .agg [.lit (.int .i64 1), .lit (.int .i64 1)], .agg [.lit (.int .i64 2), .lit (.int .i64 2)]], p)) : cs = jj := by
 cases a with
 | zero => simp [DataW.trod] at h
 | succ a =>
  simp only [DataW.trod, y] at h;split at h
  rename_i s
  rw [z] at s;obtain ⟨A, f, B⟩ := Option.map_eq_some_iff.1 h;obtain ⟨⟨F, G⟩, u, C⟩ := QcU f 0 0 rfl;obtain ⟨⟨H, I⟩, v, D⟩ := QcU f 1 1 rfl;obtain ⟨⟨J, K⟩, x, E⟩ := QcU f 2 2 rfl;have b := Qak Prod.fst B;have c := Go.Lib.mapM_length f
  match A, c with
  | [L, M, N], _ =>
   simp at u v x;subst u; subst v; subst x;simp at b;obtain ⟨rfl, rfl, rfl⟩ := b;have g := G1 k l m n o q r d C;have i := G1 k l m n o q r d D;have j := G1 k l m n o q r d E;rw [d] at g i j
   match cs, s with
   | [O, Q, R, S, T, U], _ =>
    simp at g i j;rw [g.1, g.2, i.1, i.2, j.1, j.2];rfl
  cases h
end
theorem a6Q {W ps} (h : DataW.LaidVars Tryz.prog W [("hermitage/mmu.kinds", (.agg [.agg [.lit (.int .i64 0), .lit (.int .i64 4)], .agg [.lit (.int .i64 1), .lit (.int .i64 1)], .agg [.lit (.int .i64 2), .lit (.int .i64 2)]]))] ps) : ∀ A, bF (aT W A) 1 0 jj := by
 obtain ⟨m, n, g, e, p, q, b, c, a, j, _, _⟩ := h;have f : Tryz.prog.globalNamed "hermitage/mmu.kinds" = some 1 := by kernel_rfl
 obtain rfl := Qbg (f.symm.trans b);have d : (Tryz.prog.globals[1]?).map (·.type) = some 494 := by kernel_rfl
 obtain rfl := Qbg (d.symm.trans c);have k : g.toList = jj := a6P a7X a7P jL jL rfl rfl (by kernel_rfl) (by kernel_rfl) (by kernel_rfl) (by kernel_rfl) j;intro A i v l;refine xh ?_;have := World.var?_cell f a i;rw [Qac, this, ← Array.getElem?_toList, k]; exact l
section
variable {P : Program} {w : World} {enc : TypeId × Value → Unit} {base : Nat} {sp : Nat → Bool} {held : Bool}
theorem a6R {a n t e cs} {b : List Nat} {p} (o : P.underlying t = some (.array n e)) (he : P.underlying e = some (.int .i64)) (r : P.cellsOf e = 1) (s : P.cellsOf t = n)
    (h : DataW.trod enc P w base sp held a t cs = some (.agg (b.map fun z => .lit (.int .i64 (z : Nat))), p)) : cs = b.map fun z => .int .i64 z := by
 cases a with
 | zero => simp [DataW.trod] at h
 | succ a =>
  simp only [DataW.trod, o] at h;split at h
  rename_i u
  rw [s] at u;obtain ⟨j, k, D⟩ := Option.map_eq_some_iff.1 h;have c : j.map (·.1) = b.map fun z => (.lit (.int .i64 ((z : Nat) : Int)) : DataW Unit) := by
   grind
  have f := Go.Lib.mapM_length k;rw [QcM] at f;have v : b.length = n := by
   have := Qak List.length c;simp at this; omega
  apply QaS (by simp; omega);intro i x E;have y : i < n := by omega
  obtain ⟨⟨d, q⟩, F, A⟩ := QcU k i i (by simp [y]);obtain ⟨m, l, B, _⟩ := DataW.trod_int he A;have g : (j.map (·.1))[i]? = some d := by grind
  rw [c, QcN, QaR (show i < b.length by omega)] at g;have C : d = .lit (.int .i64 m) := Qak Prod.fst B;rw [C] at g;simp at g;rw [r, QaA, Qbf x] at l;rw [(List.cons.inj l).1, List.getElem_map, g];cases h
end
theorem a6S {W ps r} (h : DataW.LaidVars Tryz.prog W (("hermitage/isa.has", (.agg (xN.map fun z => .lit (.int .i64 (z : Nat))))) :: r) ps) : (∀ A, bF (aT W A) 0 0 l6) ∧ ∃ q, DataW.LaidVars Tryz.prog W r q := by
 obtain ⟨n, o, g, e, p, q, b, c, a, j, k, _⟩ := h;refine ⟨?_, q, k⟩;have f : Tryz.prog.globalNamed "hermitage/isa.has" = some 0 := by kernel_rfl
 obtain rfl := Qbg (f.symm.trans b);have d : (Tryz.prog.globals[0]?).map (·.type) = some 426 := by kernel_rfl
 obtain rfl := Qbg (d.symm.trans c);have l : g.toList = l6 := a6R a7L jL (by kernel_rfl) (by kernel_rfl) j;intro A i v m;refine xh ?_;have := World.var?_cell f a i;rw [Qac, this, ← Array.getElem?_toList, l]; exact m
theorem a6T {W} (h : laidMet Tryz.prog [("hermitage/isa.has", (.agg (xN.map fun z => .lit (.int .i64 (z : Nat))))), ("hermitage/mmu.kinds", (.agg [.agg [.lit (.int .i64 0), .lit (.int .i64 4)], .agg [.lit (.int .i64 1), .lit (.int .i64 1)], .agg [.lit (.int .i64 2), .lit (.int .i64 2)]]))] W) :
    (∀ A, bF (aT W A) 0 0 l6) ∧ ∀ A, bF (aT W A) 1 0 jj := by
 obtain ⟨c, h, _⟩ := h;obtain ⟨a, q, b⟩ := a6S h;exact ⟨a, a6Q b⟩
end
end Go.Proofs.YtofillmoflhijaaGreatDoor
