/-
  Part 6 of the proof of GuestSteps: rules, and walks of functions. Conditions: none.
-/
import Derived.Test.YtofillmoflhijaaGreatDoorGuestStepsE
namespace Go.Proofs.YtofillmoflhijaaGreatDoor
open Go.Proofs.Tryz
set_option linter.unusedSimpArgs false
set_option linter.unusedVariables false
set_option maxRecDepth 20000
set_option linter.defProp false
set_option synthInstance.maxSize 8192
set_option synthInstance.maxHeartbeats 2000000
variable {W0 : World} {R : List HP}
section
open Go.RowKit
theorem a4l b es k ck x y z rl (e : rl.length = 16) : sP W0 202 [pV b, .agg ([Value.int .i64 k, iQ ck, wV x, wV y, wV z] ++ rl.map wV).toArray] (gx b es :: R) (fun v B => ∃ q, v = iQ q ∧ B = gx b (pX es ⟨k, ck, x, y, z, rl⟩) :: R) := by
 by_cases d : es.length < 4096;rw [pX, Qad d];refine iH (a0O b es k ck x y z rl e d) fun v B f => ?_;obtain ⟨rfl, rfl⟩ := f;exact ⟨_, ⟨0, rfl, rfl⟩, ent_refl⟩;rw [pX, Qab d];refine am func202 ntmps202 ?_;refine bA fun h => ?_;refine ah (ao NV (Ez b es)) ?_;refine AT (b := b) fun a c => ?_;refine aw ?_;refine aD rfl (fun g => ?_) fun g => ?_;refine au 8 ?_;refine ae ?_;exact ⟨_, ⟨2, rfl, rfl⟩, yi rfl rfl⟩;omega
structure GOk (z : Gz) (g : Gu) (N : Nat) : Prop where
  c : CpOk g.c
  i : z.i < 4
  clk : g.clock ≤ N
  bud : g.bud ≤ 16 * N
  ln : g.ln ≤ 16 * N
  tn : g.tm.now ≤ N
theorem GOk.k {z g N} (h : GOk z g N) (a : N ≤ 700) : g.clock < 1000000000 := by have := h.clk; omega
theorem GOk.cpu {z g g' N} (h : GOk z g N) (a : CpOk g'.c) (d : g'.clock = g.clock) (e : g'.bud ≤ g.bud + 6) (f : g'.ln = g.ln) (b : g'.tm = g.tm) : GOk z g' (N + 1) :=
  ⟨a, h.i, by have := h.clk; omega, by have := h.bud; omega, by have := h.ln; omega, by rw [b]; have := h.tn; omega⟩
abbrev gN (gb : Nat) (z : Gz) (g : Gu) (R : List HP) : List HP := pt gb (dC z g) :: pt z.x.r (dR g.c.rl g.c.pc) :: gx z.tr g.es :: R
abbrev gT (gb : Nat) (z : Gz) (g : Gu) (R : List HP) : List HP := pt gb (dC z g) :: pt z.x.r (dR g.c.rl g.c.pc) :: pt z.x.c (en g.c.cs z.i) :: gx z.tr g.es :: R
abbrev gM (gb : Nat) (z : Gz) (g : Gu) (fr : List aE) (pg : List Pl) (R : List HP) : List HP := pt gb (dC z g) :: pt z.x.r (dR g.c.rl g.c.pc) :: pt z.x.c (en g.c.cs z.i) :: gx z.tr g.es :: iB z.x.m ⟨z.pv, z.ps, z.pm, g.bud, fr, pg⟩ :: bB z.ps fr :: R
section
variable (W0 : World) (R : List HP) (gb : Nat) (z : Gz) (g : Gu) (N : Nat) (fr : List aE) (pg : List Pl)
theorem lU : sQ W0 48 [pV gb] (pt gb (dC z g) :: R) (.bool false) (pt gb (dC z g) :: R) := by
 refine am func48 ntmps48 ?_;refine dj rfl rfl rfl (fun a => ?_) fun a => ?_;cases a;refine aw ?_;exact ae ap
theorem BB (hk : g.clock < 1000000000) : sQ W0 159 [pV gb] (pt gb (dC z g) :: R) (iQ (dZ g.clock)) (pt gb (dC z g) :: R) := by
 refine am func159 ntmps159 ?_;refine aa gW ?_;refine aa (vX rfl rfl (show _ = ((dZ g.clock : Nat) : Int) by unfold dZ; split <;> omega)) ?_;exact ae ap
theorem tJ (hk : g.clock < 1000000000) (b : g.c.rl.length = 16) k x y w : sQ W0 136 [pV gb, iQ k, wV x, wV y, wV w] (gN gb z g R) (.tuple #[]) (gN gb z (oC g k x y w) R) := by
 refine am func136 ntmps136 ?_;refine bc [gb] 18 fun a => ?_;refine aj 0 6 a ?_;refine aj 7 8 a ?_;refine bG 6 (ao GQ (BB W0 _ gb z g hk)) fun a => ?_;refine bG 15 (ao call75 (JX z.x.r g.c.rl g.c.pc b)) fun a => ?_;refine az 16 a (EI b rfl rfl rfl rfl rfl rfl) ?_;refine bX 17 (ao call202 (a4l z.tr g.es k ((dZ g.clock : Nat) : Int) x y w g.c.rl b)) ?_; clear a;rintro _ e ⟨q, rfl, d⟩;obtain rfl := d.symm;refine ⟨aV, fun a => ?_⟩;refine aK ?_;refine bK (.inr rfl) .nil ?_;exact ap
theorem yQ (h : GOk z g N) (b : N ≤ 700) cause tval (e : cause < 4294967296) (f : tval < 4294967296) : sQ W0 164 [pV gb, wV cause, wV tval] (gT gb z g R) (iQ (fX g cause tval).1) (gT gb z (fX g cause tval).2 R) := by
 obtain ⟨i, a⟩ : ∃ t, (dm g.c.cs 1 != 0) = t := ⟨_, rfl⟩
 have d : dm g.c.cs 1 = 0 ↔ i = false := by grind
 rw [fX];refine am func164 ntmps164 ?_;refine ah (ao sD (qS z.x.r g.c.rl g.c.pc h.c.r.len)) ?_;refine ah (ao call231 (Le z.x.c h.c.cs)) ?_;rw [a];refine ai (fun j => ?_) fun j => ?_;rw [Qad (d.2 (by grind))];refine av (iJ (by exact rfl : (mn z g).set 8 (.bool true) = mn z (fg g))) ?_;refine ah (cK vo (tJ W0 _ gb z (fg g) (h.k b) h.c.r.len 6 cause tval g.c.pc)) ?_;exact ae ap;rw [Qab (fun q => by have := d.1 q; simp_all)];refine ah (ao call162 (Lg z.x.c g.c.pc cause tval h.c.cs h.c.pc e f)) ?_;refine ah (ao CE (yh z.x.r g.c.rl g.c.pc (dm g.c.cs 1) h.c.r.len)) ?_;refine ah (cK vo (tJ W0 _ gb z (uX g cause tval) (h.k b) h.c.r.len 1 cause tval g.c.pc)) ?_;exact ae ap
theorem Mb g a b : (fX g a b).2.bud = g.bud := by unfold fX; split <;> rfl
theorem Fq {W0 R} c f : sQ W0 165 [wV c, iQ f] R (wV (rf c f)) R := by
 refine am func165 ntmps165 ?_;refine aa (bD (d8 f)) ?_;refine aa (qj rfl rfl (d8 _)) ?_;refine aa (cY rfl rfl (d8 _)) ?_;exact ae ap
theorem BC (a : g.c.rl.length = 16) pc : sQ W0 323 [pV gb, wV pc] (pt gb (dC z g) :: pt z.x.r (dR g.c.rl g.c.pc) :: R) (iQ 0) (pt gb (dC z g) :: pt z.x.r (dR g.c.rl pc) :: R) := by
 refine am func323 ntmps323 ?_;refine ah (ao CE (yh z.x.r g.c.rl g.c.pc pc a)) ?_;exact ae ap
theorem a4m {W0 R} w n : sQ W0 322 [wV w, iQ n] R (wV (oD w n)) R := by
 refine am func322 ntmps322 ?_;refine ai (fun a => ?_) fun a => ?_;refine aa (bD rfl) ?_;refine aa (bD rfl) ?_;refine aa (bD (d8 _)) ?_;refine ae ?_;rw [oD, Qad (by omega)];exact ap;refine ai (fun b => ?_) fun b => ?_;refine aa (bD rfl) ?_;refine aa (bD rfl) ?_;refine aa (bD (d8 _)) ?_;refine ae ?_;rw [oD, Qab (by omega), Qad (by omega)];exact ap;refine ae ?_;rw [oD, Qab (by omega), Qab (by omega)];exact ap
theorem GOk.tick {z g N} (h : GOk z g N) : GOk z (bZ g) (N + 1) := h.cpu h.c rfl (by grind) rfl rfl
theorem uY {fr pg on root user va w kind} (b : cC fr) : pp fr pg on root user va w kind < 4294967296 := by
 unfold pp;split;split;unfold kx;split
 rename_i c
 obtain ⟨i, d, a⟩ := qB c;rw [d, Qaf];exact Wt (b.get a).2;decide;decide;decide
theorem Mc {fr pg on root user va w x} (a : cC fr) : cC (lR fr pg on root user va w x) := by
 grind [lR, A7]
theorem Md {fr pg on root user va w x} : (lR fr pg on root user va w x).length = fr.length := by
 grind [lR, xA]
theorem a4n (p : ∀ A, bF (aT W0 A) 1 0 jj) (h : GOk z g N) (u : N ≤ 690) (v : cC fr) e (he : EfOk e) : sQ W0 244 [pV gb, .agg (cq e).toArray] (gM gb z g fr pg R) (iQ (pw g fr pg e).1) (gM gb z (pw g fr pg e).2 fr pg R) := by
 obtain ⟨F, f⟩ : ∃ F, pu g fr pg e.addr e.width 1 = F := ⟨_, rfl⟩
 obtain ⟨w, i⟩ : ∃ w, pr g fr pg e.addr e.width 1 = w := ⟨_, rfl⟩
 have B : w < 4294967296 := by grind [uY]
 have q := h.tick;have s := h.bud;rw [pw, f, i];refine kS func244 ntmps244 rfl rfl ?_;refine aQ (aY ?_);refine fi (kh rfl) fun j => ?_;refine ac rfl (bj rfl) (aP (aH (aQ ?_)));refine bc [gb, j] 21 fun a => ?_;refine aj 0 10 a ?_;refine aj 11 4 a ?_;refine bG 10 (ao CI (yE z.x.c h.c.cs)) fun a => ?_;refine bX 15 (cA call163 (LI W0 _ z.x.m z.pv z.ps z.pm g.bud fr pg p (by omega) (iu g.c.cs) (gY g.c.cs) (!e8 g.c.cs) e.addr he.addr e.width 1)) ?_; clear a;rintro _ o ⟨rfl, b⟩;obtain rfl := b.symm;rw [show lQ fr pg (iu g.c.cs) (gY g.c.cs) (!e8 g.c.cs) e.addr e.width 1 = F from f, show pp fr pg (iu g.c.cs) (gY g.c.cs) (!e8 g.c.cs) e.addr e.width 1 = w from i];refine ⟨aV, fun a => ?_⟩;refine aj 16 5 a ?_;refine gC ?_;refine aH (aQ (aQ (aY (ac rfl (aM rfl) (ac rfl (mB rfl rfl) (aP (aH ?_)))))));refine aD rfl (fun l => ?_) fun l => ?_;refine aQ ?_;refine bc [j] 7 fun a => ?_;refine aj 0 2 a ?_;refine aj 3 2 a ?_;refine bG 2 (aC Oi (Fq 4 F)) fun a => ?_;refine lN 5 (by kernel_rfl) rfl rfl (mG CK rfl (yQ W0 _ gb z (bZ g) (N + 1) q (by omega) (rf 4 F) e.addr (dU _) he.addr)) rfl ?_; clear a;rintro _ o ⟨rfl, b⟩;obtain rfl := b.symm;refine ⟨(bL bE), fun a => ?_⟩;refine aj 6 1 a ?_;refine aK ?_;refine ae ?_;rw [Qad l];unfold gM;rw [Mb];exact ap;refine au 2 ?_;refine dw (fun _ : Unit => True) (fun _ => [(0, pV gb), (3, pV j), (5, wV (if e.signed then oD w e.width else w))]) (fun _ => pt j (ag (cq e) 276) :: gM gb z (bZ g) fr pg R) ?_ ?_;refine au 6 ?_;refine ai (fun n => ?_) fun n => ?_;refine ah (aC call322 (a4m w e.width)) ?_;refine dD () ?_ ?_ ?_;trivial
 · rw [Qad n]
   repeat (first | exact bC | refine bq rfl ?_)
 exact IO;refine dD () ?_ ?_ ?_;trivial
 · rw [Qab n]
   repeat (first | exact bC | refine bq rfl ?_)
 exact IO;intro _ _;rw [Qab l];obtain ⟨y, t⟩ : ∃ y, (if e.signed then oD w e.width else w) = y := ⟨_, rfl⟩
 rw [t];have k : hJ (e.d : Int) = true := by have := he.d; simp only [hJ, Qai]; omega
 refine aw ?_;refine bc [gb, j] 9 fun a => ?_;refine aj 0 8 a ?_;refine bX 8 (ao CF (F3 z.x.r g.c.rl g.c.pc y e.d h.c.r.len)) ?_; clear a;rintro _ o ⟨rfl, b⟩;obtain rfl := b.symm;rw [Qad k, Qad k, Qaf];refine ⟨aV, fun a => ?_⟩;refine aK ?_;refine ah (cA GR (BC W0 _ gb z (Fp (bZ g) e.d y g.c.pc) (by show (je g.c.rl e.d y).length = 16; unfold je; split <;> simp [h.c.r.len]) e.pc)) ?_;exact ae ap
theorem a4o (n : ∀ A, bF (aT W0 A) 1 0 jj) (h : GOk z g N) (s : N ≤ 690) (t : cC fr) e (he : EfOk e) : sQ W0 245 [pV gb, .agg (cq e).toArray] (gM gb z g fr pg R) (iQ (px g fr pg e).1) (gM gb z (px g fr pg e).2 (wF g fr pg e.addr e.width e.val) pg R) := by
 obtain ⟨F, i⟩ : ∃ F, pu g fr pg e.addr e.width 2 = F := ⟨_, rfl⟩
 obtain ⟨j, b⟩ : ∃ f, wF g fr pg e.addr e.width e.val = f := ⟨_, rfl⟩
 have o := h.tick;have p := h.bud;rw [px, i, b];refine kS func245 ntmps245 rfl rfl ?_;refine aQ (aY ?_);refine fi (kh rfl) fun l => ?_;refine ac rfl (bj rfl) (aP (aH (aQ (aQ ?_))));refine bc [gb, l] 19 fun a => ?_;refine aj 0 10 a ?_;refine aj 11 6 a ?_;refine bG 10 (ao CI (yE z.x.c h.c.cs)) fun a => ?_;refine bX 17 (cA call324 (a3m W0 _ z.x.m z.pv z.ps z.pm g.bud fr pg n (by omega) (iu g.c.cs) (gY g.c.cs) (!e8 g.c.cs) e.addr he.addr e.width e.val he.val)) ?_; clear a;rintro _ q ⟨rfl, d⟩;obtain rfl := d.symm;rw [show lQ fr pg (iu g.c.cs) (gY g.c.cs) (!e8 g.c.cs) e.addr e.width 2 = F from i, show lR fr pg (iu g.c.cs) (gY g.c.cs) (!e8 g.c.cs) e.addr e.width e.val = j from b];refine ⟨aV, fun a => ?_⟩;refine aj 18 1 a ?_;refine gC ?_;refine aH (aQ (aY (ac rfl (aM rfl) (ac rfl (mB rfl rfl) (aP (aH ?_))))));refine aD rfl (fun k => ?_) fun k => ?_;refine aQ ?_;refine bc [l] 7 fun a => ?_;refine aj 0 2 a ?_;refine aj 3 2 a ?_;refine bG 2 (aC Oi (Fq 5 F)) fun a => ?_;refine lN 5 (by kernel_rfl) rfl rfl (mG CK rfl (yQ W0 _ gb z (bZ g) (N + 1) o (by omega) (rf 5 F) e.addr (dU _) he.addr)) rfl ?_; clear a;rintro _ q ⟨rfl, d⟩;obtain rfl := d.symm;refine ⟨(bL bE), fun a => ?_⟩;refine aj 6 1 a ?_;refine aK ?_;refine ae ?_;rw [Qad k];unfold gM;rw [Mb];exact ap;refine aw ?_;refine ah (cA GR (BC W0 _ gb z (bZ g) h.c.r.len e.pc)) ?_;refine ae ?_;rw [Qab k];exact ap
theorem a4p (h : GOk z g N) (b : N ≤ 690) e (he : EfOk e) : sQ W0 246 [pV gb, .agg (cq e).toArray] (gM gb z g fr pg R) (.int .i64 (fX g e.cause e.tval).1) (gM gb z (fX g e.cause e.tval).2 fr pg R) := by
 have a : (fX g e.cause e.tval).2.bud = g.bud := by grind [fX]
 refine jq 2 func246 ntmps246 ?_;refine fi (kh rfl) fun c => ?_;refine au 10 ?_;refine ew 4 (mG CK rfl (yQ W0 _ gb z g N h (by omega) e.cause e.tval (by have := he.cause; omega) he.tval)) ?_;refine ae ?_;unfold gM;rw [a];exact ⟨_, ⟨rfl, rfl⟩, IO⟩
theorem a4q (b : g.c.rl.length = 16) e : sQ W0 247 [pV gb, .agg (cq e).toArray] (gM gb z g fr pg R) (iQ 0) (gM gb z (iO g e.pc) fr pg R) := by
 refine am func247 ntmps247 ?_;refine bA fun d => ?_;refine aG rfl (ao call325 (a3n W0 _ z.x.m z.pv z.ps z.pm g.bud fr pg)) ?_;rintro _ f ⟨q, rfl, a⟩;obtain rfl := a.symm;refine aw ?_;refine ah (cA GR (BC W0 _ gb z g b e.pc)) ?_;exact ae ap
theorem a4r (hk : g.clock < 1000000000) (a : g.c.rl.length = 16) e : sQ W0 248 [pV gb, .agg (cq e).toArray] (gM gb z g fr pg R) (iQ 4) (gM gb z (oC (iO (fg g) e.pc) 4 0 0 g.c.pc) fr pg R) := by
 refine am func248 ntmps248 ?_;refine bA fun b => ?_;refine ah (ao sD (qS z.x.r g.c.rl g.c.pc a)) ?_;refine av (iJ (by exact rfl : (mn z g).set 8 (.bool true) = mn z (fg g))) ?_;refine ah (cA GR (BC W0 _ gb z (fg g) a e.pc)) ?_;refine ah (cK vo (tJ W0 _ gb z (iO (fg g) e.pc) hk a 4 0 0 g.c.pc)) ?_;exact ae ap
def Me (f : FuncId) (e : Eff) (o : (Int × Gu) × List aE) : Prop := (∀ args w, (callFunc f args).run Tryz.prog w = .ok (.enter f args) w) ∧ ∀ R, bH Tryz.prog W0 f ([pV gb] ++ [.agg (cq e).toArray] ++ []) (gM gb z g fr pg R) (fun v B => v = .int .i64 o.1.1 ∧ B = gM gb z o.1.2 o.2 pg R)
theorem uZ {f e o o'} (b : ∀ a w, (callFunc f a).run Tryz.prog w = .ok (.enter f a) w) (c : o = o') (h : ∀ R, bH Tryz.prog W0 f [pV gb, .agg (cq e).toArray] (gM gb z g fr pg R) (fun v B => v = iQ o'.1.1 ∧ B = gM gb z o'.1.2 o'.2 pg R)) : Me W0 gb z g fr pg f e o := ⟨b, by rw [c]; exact h⟩
theorem a4s e : sQ W0 249 [pV gb, .agg (cq e).toArray] R (iQ 3) R := by
 refine am func249 ntmps249 ?_;refine bA fun a => ?_;exact ae ap
theorem a4t e : sQ W0 250 [pV gb, .agg (cq e).toArray] R (iQ 0) R := by
 refine am func250 ntmps250 ?_;refine bA fun a => ?_;exact ae ap
theorem Fs (i : ∀ A, bF (aT W0 A) 1 0 jj) (h : GOk z g N) (a : N ≤ 690) (j : cC fr) e (he : EfOk e) : sP W0 168 [pV gb, iQ e.k] R (fun v B => ∃ f, v = .func (.func f) #[pV gb] #[] ∧ B = R ∧ Me W0 gb z g fr pg f e (eJ g fr pg e)) := by
 refine am func168 ntmps168 ?_;refine ai (fun l => ?_) fun l => ?_;refine ae ?_;refine ⟨_, ⟨_, rfl, rfl, uZ W0 gb z g fr pg (o' := (pw g fr pg e, fr)) call244 ?_ fun R => a4n W0 R gb z g N fr pg i h a j e he⟩, IO⟩;rw [eJ, Qad (by omega)];refine ai (fun m => ?_) fun m => ?_;refine ae ?_;refine ⟨_, ⟨_, rfl, rfl, uZ W0 gb z g fr pg (o' := (px g fr pg e, wF g fr pg e.addr e.width e.val)) call245 ?_ fun R => a4o W0 R gb z g N fr pg i h a j e he⟩, IO⟩;rw [eJ, Qab (by omega), Qad (by omega)];refine ai (fun n => ?_) fun n => ?_;refine ae ?_;refine ⟨_, ⟨_, rfl, rfl, uZ W0 gb z g fr pg (o' := (fX g e.cause e.tval, fr)) call246 ?_ fun R => a4p W0 R gb z g N fr pg h a e he⟩, IO⟩;rw [eJ, Qab (by omega), Qab (by omega), Qad (by omega)];refine ai (fun o => ?_) fun o => ?_;refine ae ?_;refine ⟨_, ⟨_, rfl, rfl, uZ W0 gb z g fr pg (o' := ((0, iO g e.pc), fr)) call247 ?_ fun R => a4q W0 R gb z g fr pg h.c.r.len e⟩, IO⟩;rw [eJ, Qab (by omega), Qab (by omega), Qab (by omega), Qad (by omega)];refine ai (fun b => ?_) fun b => ?_;refine ae ?_;refine ⟨_, ⟨_, rfl, rfl, uZ W0 gb z g fr pg (o' := ((4, oC (iO (fg g) e.pc) 4 0 0 g.c.pc), fr)) call248 ?_ fun R => a4r W0 R gb z g fr pg (h.k (by omega)) h.c.r.len e⟩, IO⟩;rw [eJ, Qab (by omega), Qab (by omega), Qab (by omega), Qab (by omega), Qad (by omega)];refine ai (fun d => ?_) fun d => ?_;refine ae ?_;refine ⟨_, ⟨_, rfl, rfl, uZ W0 gb z g fr pg (o' := ((3, g), fr)) call249 ?_ fun R => a4s W0 _ gb e⟩, IO⟩;rw [eJ, Qab (by omega), Qab (by omega), Qab (by omega), Qab (by omega), Qab (by omega), Qad (by omega)];refine ae ?_;refine ⟨_, ⟨_, rfl, rfl, uZ W0 gb z g fr pg (o' := ((0, g), fr)) call250 ?_ fun R => a4t W0 _ gb e⟩, IO⟩;rw [eJ, Qab (by omega), Qab (by omega), Qab (by omega), Qab (by omega), Qab (by omega), Qab (by omega)]
theorem a4u (D : ∀ A, bF (aT W0 A) 1 0 jj) (E : ∀ A, bF (aT W0 A) 0 0 l6) (h : GOk z g N) (P : N ≤ 680) (G : cC fr) : sQ W0 74 [pV gb] (gM gb z g fr pg R) (iQ (jx z.i g fr pg).1.1) (gM gb z (jx z.i g fr pg).1.2 (jx z.i g fr pg).2 pg R) := by
 obtain ⟨F, v⟩ : ∃ F, pu g fr pg g.c.pc 4 0 = F := ⟨_, rfl⟩
 obtain ⟨w, y⟩ : ∃ w, pr g fr pg g.c.pc 4 0 = w := ⟨_, rfl⟩
 have I : w < 4294967296 := by grind [uY]
 have t := h.tick;have K := h.bud;obtain ⟨L, j⟩ : ∃ b, gX (fF w) = b := ⟨_, rfl⟩
 have B := DN w;obtain ⟨o, C⟩ : ∃ o, jU z.i (dZ g.clock) (fF w) g.c = o := ⟨_, rfl⟩
 have n : EfOk o.1 ∧ CpOk o.2 := by rw [← C]; exact DY h.c B.2.1 h.i
 have u : GOk z (dB (bZ g) o.2) (N + 1) := ⟨n.2, t.i, t.clk, t.bud, t.ln, t.tn⟩
 have p : ∀ (a b : Nat), (fX (bZ g) a b).2.bud = g.bud + 3 := fun a b => by unfold fX; split <;> rfl
 rw [jx, v, y, j, C];refine am func74 ntmps74 ?_;refine ah (ao sD (qS z.x.r g.c.rl g.c.pc h.c.r.len)) ?_;refine bc [gb] 18 fun e => ?_;refine aj 0 10 e ?_;refine aj 11 1 e ?_;refine bG 10 (ao CI (yE z.x.c h.c.cs)) fun e => ?_;refine bX 12 (cA call163 (LI W0 _ z.x.m z.pv z.ps z.pm g.bud fr pg D (by omega) (iu g.c.cs) (gY g.c.cs) (!e8 g.c.cs) g.c.pc h.c.pc 4 0)) ?_; clear e;rintro _ l ⟨rfl, d⟩;obtain rfl := d.symm;rw [show lQ fr pg (iu g.c.cs) (gY g.c.cs) (!e8 g.c.cs) g.c.pc 4 0 = F from v, show pp fr pg (iu g.c.cs) (gY g.c.cs) (!e8 g.c.cs) g.c.pc 4 0 = w from y];refine ⟨aV, fun e => ?_⟩;refine aj 13 5 e ?_;refine aK ?_;refine ai (fun H => ?_) fun H => ?_;refine aG rfl (iR Oi rfl (Fq 3 F)) ?_;rintro _ l ⟨rfl, d⟩;obtain rfl := d.symm;refine ac rfl (aM rfl) ?_;refine aG rfl (mG CK rfl (yQ W0 _ gb z (bZ g) (N + 1) t (by omega) (rf 3 F) g.c.pc (dU _) h.c.pc)) ?_;rintro _ l ⟨rfl, d⟩;obtain rfl := d.symm;refine ac rfl (bj rfl) (aP (aH (dv (gQ (ae ?_)))));rw [Qad H];unfold gM;rw [p];exact ap;rw [Qab H];refine ah (aC call166 (a2I E w I)) ?_;rw [j];refine bi fun M => ?_;refine av aB ?_;refine aD rfl (fun O => ?_) fun O => ?_;refine aQ ?_;refine aY (ac rfl (aM rfl) (ac rfl (aM rfl) ?_));refine aG rfl (mG CK rfl (yQ W0 _ gb z (bZ g) (N + 1) t (by omega) 1 w (by decide) I)) ?_;rintro _ l ⟨rfl, d⟩;obtain rfl := d.symm;refine ac rfl (bj rfl) (aP (aH (dv (gQ (ae ?_)))));rw [Qad (by grind)];unfold gM;rw [p];exact ap;refine aw ?_;obtain rfl : L = true := by grind
 rw [Qab (by decide)];refine bc [gb, M] 20 fun e => ?_;refine aj 0 12 e ?_;refine fP (is := [12, 17]) (by kernel_rfl) rfl ⟨?_, ?_, trivial⟩;refine dL (ao GQ (BB W0 _ gb z g (h.k (by omega)))) ?_; clear e;rintro _ l ⟨rfl, d⟩;obtain rfl := d.symm;refine ⟨aV, fun e => ?_⟩;refine fP (is := [13, 17]) (by kernel_rfl) rfl ⟨?_, ?_, trivial⟩;refine dL (cA Oj (Fb W0 _ (fF w) z.x.r z.x.c ((dZ g.clock : Nat) : Int) g.c z.i E h.c j h.i (by omega))) ?_; clear e;rintro _ l ⟨rfl, d⟩;obtain rfl := d.symm;rw [Qaf, C];refine ⟨aV, fun e => ?_⟩;refine aj 14 3 e ?_;refine bX 17 (dQ jN) ?_; clear e;rintro _ _ ⟨J, rfl, rfl⟩;refine ⟨aV, fun e => ?_⟩;refine cj 18 aB fun e => ?_;refine aj 19 1 e ?_;refine aK ?_;refine ai (fun q => ?_) fun q => ?_;exact absurd rfl q;refine aG rfl (aC Ol (Fs W0 _ gb z (dB (bZ g) o.2) (N + 1) fr pg D u (by omega) G o.1 n.1)) ?_;rintro _ l ⟨f, rfl, d, s⟩;obtain rfl := d.symm;refine aw ?_;refine ah (km xx (jp (us := [pV gb]) (cs := []) rfl s.1 rfl (s.2 _))) ?_;exact ae ap;skip;refine dL (dQ jN) ?_; clear e;rintro _ _ ⟨J, rfl, rfl⟩;refine ⟨aV, fun e => ?_⟩;refine bX 13 (cA Oj (Fb W0 _ (fF w) z.x.r z.x.c ((dZ g.clock : Nat) : Int) g.c z.i E h.c j h.i (by omega))) ?_; clear e;rintro _ l ⟨rfl, d⟩;obtain rfl := d.symm;rw [Qaf, C];refine ⟨aV, fun e => ?_⟩;refine aj 14 3 e ?_;refine cj 18 aB fun e => ?_;refine aj 19 1 e ?_;refine aK ?_;refine ai (fun q => ?_) fun q => ?_;exact absurd rfl q;refine aG rfl (aC Ol (Fs W0 _ gb z (dB (bZ g) o.2) (N + 1) fr pg D u (by omega) G o.1 n.1)) ?_;rintro _ l ⟨f, rfl, d, s⟩;obtain rfl := d.symm;refine aw ?_;refine ah (km xx (jp (us := [pV gb]) (cs := []) rfl s.1 rfl (s.2 _))) ?_;exact ae ap;skip;refine dL (dQ jN) ?_; clear e;rintro _ _ ⟨J, rfl, rfl⟩;refine ⟨aV, fun e => ?_⟩;refine bG 12 (ao GQ (BB W0 _ gb z g (h.k (by omega)))) fun e => ?_;refine bX 13 (cA Oj (Fb W0 _ (fF w) z.x.r z.x.c ((dZ g.clock : Nat) : Int) g.c z.i E h.c j h.i (by omega))) ?_; clear e;rintro _ l ⟨rfl, d⟩;obtain rfl := d.symm;rw [Qaf, C];refine ⟨aV, fun e => ?_⟩;refine aj 14 3 e ?_;refine cj 18 aB fun e => ?_;refine aj 19 1 e ?_;refine aK ?_;refine ai (fun q => ?_) fun q => ?_;exact absurd rfl q;refine aG rfl (aC Ol (Fs W0 _ gb z (dB (bZ g) o.2) (N + 1) fr pg D u (by omega) G o.1 n.1)) ?_;rintro _ l ⟨f, rfl, d, s⟩;obtain rfl := d.symm;refine aw ?_;refine ah (km xx (jp (us := [pV gb]) (cs := []) rfl s.1 rfl (s.2 _))) ?_;exact ae ap
end
abbrev gI (gb : Nat) (z : Gz) (g : Gu) (R : List HP) : List HP := pt gb (dC z g) :: pt z.x.r (dR g.c.rl g.c.pc) :: pt z.x.c (en g.c.cs z.i) :: gx z.tr g.es :: nP z.x.v (g.ls, g.ln) :: nQ z.x.t g.tm :: R
abbrev gS (gb : Nat) (z : Gz) (g : Gu) (fr : List aE) (pg : List Pl) (R : List HP) : List HP := pt gb (dC z g) :: pt z.x.r (dR g.c.rl g.c.pc) :: pt z.x.c (en g.c.cs z.i) :: gx z.tr g.es :: nP z.x.v (g.ls, g.ln) :: nQ z.x.t g.tm :: iB z.x.m ⟨z.pv, z.ps, z.pm, g.bud, fr, pg⟩ :: bB z.ps fr :: R
theorem CpOk.enter {g} (h : CpOk g.c) {cause tval} (a : cause < 4294967296) (b : tval < 4294967296) : CpOk (uX g cause tval).c := ⟨h.r, h.cs.at_ 1, h.cs.enter h.pc a b⟩
theorem Ft ls n k : k8 ls n k ≤ n + 1 := by unfold k8; split <;> omega
theorem GOk.fired {z g N} (h : GOk z g N) : GOk z (iX g) (N + 1) := by
 refine ⟨h.c, h.i, by have := h.clk; show g.clock ≤ N + 1; omega, by have := h.bud; show g.bud ≤ _; omega, ?_, by have := h.tn; show g.tm.now ≤ _; omega⟩;have := h.ln;have := Ft g.ls g.ln 7;show (if _ then g.ln else k8 g.ls g.ln 7) ≤ _;split <;> omega
theorem GOk.le {z g N M} (h : GOk z g N) (a : N ≤ M) : GOk z g M := ⟨h.c, h.i, by have := h.clk; omega, by have := h.bud; omega, by have := h.ln; omega, by have := h.tn; omega⟩
theorem GOk.int {z g N} (h : GOk z g N) : GOk z (fY g).2 (N + 1) := by
 unfold fY;split
 cases q : jK g.ls with
 | none => exact h.le (Qcx N)
 | some n =>
  have := (yK q).1;exact ⟨h.c.enter (by omega) (by decide), h.i, by have := h.clk; show g.clock ≤ _; omega, by have := h.bud; show g.bud ≤ _; omega, by have := h.ln; show g.ln ≤ _; omega, by have := h.tn; show g.tm.now ≤ _; omega⟩
 exact h.le (Qcx N)
theorem GOk.clock {z g N} (h : GOk z g N) : GOk z (j7 g) (N + 1) := ⟨h.c, h.i, by have := h.clk; show g.clock + 1 ≤ _; omega, by have := h.bud; show g.bud ≤ _; omega, by have := h.ln; show g.ln ≤ _; omega, by have := h.tn; show g.tm.now ≤ _; omega⟩
theorem yR g a b : (fX g a b).2.ls = g.ls ∧ (fX g a b).2.ln = g.ln ∧ (fX g a b).2.tm = g.tm := by
 grind [fX]
theorem Fu i g fr pg : (jx i g fr pg).1.2.ls = g.ls ∧ (jx i g fr pg).1.2.ln = g.ln ∧ (jx i g fr pg).1.2.tm = g.tm := by
 unfold jx
 split; · exact yR _ _ _
 split; · exact yR _ _ _
 unfold eJ
 split
 grind [pw, yR]
 split
 grind [px, yR]
 split; · exact yR _ _ _
 split; · exact ⟨rfl, rfl, rfl⟩
 split; · exact ⟨rfl, rfl, rfl⟩
 split; · exact ⟨rfl, rfl, rfl⟩
 exact ⟨rfl, rfl, rfl⟩
section
variable (W0 : World) (R : List HP) (gb : Nat) (z : Gz) (g : Gu) (N : Nat) (fr : List aE) (pg : List Pl)
theorem a4v (h : GOk z g N) (W : N ≤ 690) : sQ W0 73 [pV gb] (gI gb z g R) (.bool (fY (iX g)).1) (gI gb z (fY (iX g)).2 R) := by
 have L := h.tn;have M := h.ln;obtain ⟨X, l⟩ : ∃ b, oo g.c.cs = b := ⟨_, rfl⟩
 obtain ⟨K, y⟩ : ∃ K, nh g.tm ((dZ g.clock : Nat) : Int) = K := ⟨_, rfl⟩
 obtain ⟨q, d⟩ : ∃ q, iX g = q := ⟨_, rfl⟩
 have f : q.c = g.c := by rw [← d]
 have A : mn z q = mn z g := by rw [← d]
 have m : q.es = g.es := by rw [← d]
 have o : q.clock = g.clock := by rw [← d]
 rw [d, fY, f, l];refine jq 5 func73 ntmps73 ?_;refine dw (fun _ : Unit => True) (fun _ => [(0, pV gb)]) (fun _ => pt gb (dC z q) :: pt z.x.r (dR q.c.rl q.c.pc) :: pt z.x.c (en q.c.cs z.i) :: gx z.tr q.es :: nP z.x.v (q.ls, q.ln) :: nQ z.x.t q.tm :: R) ?_ ?_;refine au 1 ?_;refine bc [gb] 10 fun p => ?_;refine aj 0 6 p ?_;refine bG 6 (ao GQ (BB W0 _ gb z g (h.k (by omega)))) fun p => ?_;refine bX 7 (ao call158 (a4i z.x.t g.tm ((dZ g.clock : Nat) : Int) (by omega))) ?_; clear p;rintro _ Y ⟨Z, fc, rfl, B⟩;obtain rfl := B.symm;rw [y];refine ⟨aV, fun p => ?_⟩;refine aj 8 2 p ?_;refine aK ?_;refine ai (fun O => ?_) fun O => ?_;refine ah (ao call51 (LW z.x.v g.ls g.ln 7 (by omega))) ?_;rw [Qad (show gH 7 = true by decide), Qad (show gH 7 = true by decide), Qad (show gH 7 = true by decide), show (7 : Int).toNat = 7 from rfl];refine bY () ?_ (he := ?_);trivial;rw [← d];show Ent _ (pt gb (dC z g) :: pt z.x.r (dR g.c.rl g.c.pc) :: pt z.x.c (en g.c.cs z.i) :: gx z.tr g.es :: nP z.x.v (if nh g.tm ((dZ g.clock : Nat) : Int) = 0 then g.ls else ml g.ls g.ln 7, if nh g.tm ((dZ g.clock : Nat) : Int) = 0 then g.ln else k8 g.ls g.ln 7) :: nQ z.x.t (tI g.tm ((dZ g.clock : Nat) : Int)) :: R);rw [y, Qab (by omega), Qab (by omega)];exact IO;refine bY () ?_ (he := ?_);trivial;rw [← d];show Ent _ (pt gb (dC z g) :: pt z.x.r (dR g.c.rl g.c.pc) :: pt z.x.c (en g.c.cs z.i) :: gx z.tr g.es :: nP z.x.v (if nh g.tm ((dZ g.clock : Nat) : Int) = 0 then g.ls else ml g.ls g.ln 7, if nh g.tm ((dZ g.clock : Nat) : Int) = 0 then g.ln else k8 g.ls g.ln 7) :: nQ z.x.t (tI g.tm ((dZ g.clock : Nat) : Int)) :: R);rw [y, Qad (by omega), Qad (by omega)];exact IO;intro _ _;clear d;obtain ⟨qc, P, Q, C, a, s, D, S, E, J, T, u⟩ := q;dsimp only at f A m o ⊢;subst f; subst m; subst o;have U := h.c;refine aw ?_;refine ah (ao call160 (a2h z.x.c h.c.cs)) ?_;rw [l];refine ai (fun F => ?_) fun F => ?_;refine ae ?_;rw [Qab (by simpa using F)];exact ap;rw [Qad (by simpa using F)];refine ah (ao call161 (a3T z.x.v a s)) ?_;obtain ⟨w, j⟩ : ∃ b, jK a = b := ⟨_, rfl⟩
 rw [j];have G : w = none → mm a = a := fun e => by unfold mm; rw [j, e]
 have H : ∀ n, w = some n → n < 8 := fun n e => (yK (j.trans e)).1;refine ai (fun I => ?_) fun I => ?_;refine ae ?_
 cases w with
 | some n => exact absurd rfl I
 | none =>
  rw [G rfl];exact ap
 obtain ⟨n, rfl⟩ : ∃ n, w = some n := by
  cases w with
  | some n => exact ⟨n, rfl⟩
  | none => simp at I
 have V := H n rfl;rw [Option.getD_some];refine ah (ao sD (qS z.x.r g.c.rl g.c.pc h.c.r.len)) ?_;refine aa (bD (cZ (by omega))) ?_;refine aa (ee (256 + n)) ?_;refine ah (ao call162 (Lg z.x.c g.c.pc (256 + n) 0 h.c.cs h.c.pc (by omega) (by decide))) ?_;refine ah (ao CE (yh z.x.r g.c.rl g.c.pc (dm g.c.cs 1) h.c.r.len)) ?_;refine ah (cK vo (tJ W0 _ gb z ⟨⟨g.c.rl, dm g.c.cs 1, m8 g.c.cs g.c.pc (256 + n) 0⟩, P, Q, C, mm a, s, D, S, E, g.clock, g.es, u⟩ (h.k (by omega)) h.c.r.len 3 (256 + n) 0 g.c.pc)) ?_;exact ae ap
theorem BD (k : ∀ A, bF (aT W0 A) 1 0 jj) (l : ∀ A, bF (aT W0 A) 0 0 l6) (h : GOk z g N) (o : N ≤ 600) (m : cC fr) : sQ W0 12 [pV gb] (gS gb z g fr pg R) (iQ (fk z.i g fr pg).1.1) (gS gb z (fk z.i g fr pg).1.2 (fk z.i g fr pg).2 pg R) := by
 have n := h.clk;have f := h.clock;have j := (f.fired).int;obtain ⟨q, c⟩ : ∃ q, fY (iX (j7 g)) = q := ⟨_, rfl⟩
 have b : q.2.bud = g.bud := by
  grind [fY]
 rw [c] at j;rw [fk, c];refine am func12 ntmps12 ?_;refine ah (ao mw (lU W0 _ gb z g)) ?_;refine aa (ee (g.clock + 1)) ?_;refine av (iJ (by exact rfl : (mn z g).set 27 (iQ ((g.clock + 1 : Nat) : Int)) = mn z (j7 g))) ?_;refine ai (fun d => ?_) fun d => ?_;refine ae ?_;rw [Qad d];exact ap;rw [Qab d];refine ah (qy call73 rfl (a4v W0 _ gb z (j7 g) (N + 1) f (by omega))) ?_;rw [c];refine ai (fun e => ?_) fun e => ?_;refine ae ?_;rw [Qad e];unfold gS;rw [← b];exact ap;rw [Qab e, ← b];refine ah (qy call74 rfl (a4u W0 _ gb z q.2 (N + 1 + 1 + 1) fr pg k l j (by omega) m)) ?_;have a := Fu z.i q.2 fr pg;refine ae ?_;refine ⟨_, ⟨rfl, rfl⟩, ?_⟩;unfold gS;rw [a.1, a.2.1, a.2.2];exact IO
end
theorem a4w {po Ls} {f w : Nat} (h : LsOk po Ls) (a : f < po.length) (c : dp po f = ((w : Int), true)) : LsOk (po.set f (-1, false)) Ls := by
 refine ⟨h.len, fun u b => ?_⟩;rw [E4 a (by grind) (by grind)];exact h.row u b
theorem Mf pb ps po fr (f w : Nat) (hf : f < po.length) (hff : f < fr.length) (hw : w < 16) (hP : PoOk po) (ha : dp po f = ((w : Int), true)) : sQ W0 131 [pV pb, .int .i64 f] (cW pb (ps, po) :: bB ps fr :: R) (.int .i64 0) (cW pb (ps, po.set f (w, false)) :: bB ps (fr.set f cR) :: R) := by
 refine jq 10 func131 ntmps131 ?_;refine ew 3 (iZ zv rfl (w3 pb ps po (by omega))) ?_;refine aD rfl (fun j => ?_) fun j => ?_;exact absurd j (by decide);refine au 4 ?_;refine ew 4 (iZ NQ rfl (Ed pb ps po (f : Int))) ?_;refine aD rfl (fun k => ?_) fun k => ?_;exact absurd k (by rw [show ez po.length (f : Int) = true from by simp [ez]; omega]; decide);refine aQ ?_;refine vZ (pb := pb) fun a c d h p q => ?_;refine gk (r := osl 178 2) (b := .slice a po.length c) (kt (fun l i => by have := Qak List.length i; rw [qK] at this; simp at this; omega) fun g n s m l i t v u => ?_);cases l;have e := Ec po m f 1 hf (by decide);rw [ha] at e;refine au 6 ?_;refine ac rfl (iF zl Ca rfl rfl rfl hf (by first | exact Qac _ | rfl)) ?_;refine ac rfl (D6 Gb gO) ?_;refine iS 4 (cg nj rfl (aJ e)) ?_;refine aD rfl (fun o => ?_) fun o => ?_;simp at o;refine au 4 ?_;refine dr (B := pt pb (ag (gr ps (.slice (some ⟨g, 0, none⟩) po.length c) d) 176) :: osl 178 2 (.slice (some ⟨g, 0, none⟩) po.length c) (po.flatMap fG) :: kH 2 (cu ((d.zip h).map eG)) :: bB ps fr :: R) ?_ ?_;refine Ent.trans (B := pt g (ag (po.flatMap fG ++ m) 178) :: pt pb (ag (gr ps (.slice (some ⟨g, 0, none⟩) po.length c) d) 176) :: kH 2 (cu ((d.zip h).map eG)) :: bB ps fr :: R) inferInstance ?_;refine (fC (g := g) (E := 178) (sz := 2) (B := pt pb (ag (gr ps (.slice (some ⟨g, 0, none⟩) po.length c) d) 176) :: kH 2 (cu ((d.zip h).map eG)) :: bB ps fr :: R) i t (qK po) u).trans inferInstance;refine au 3 ?_;refine ew 4 (mG call83 rfl (J9 pb ps po fr f w true hf hff hw hP ha (some ⟨g, 0, none⟩) c d h p (a4w q hf ha))) ?_;exact ae ap
theorem a4x pb ps po w (n : 0 < po.length) (f : w < 16) (o : PoOk po) (he : cm po w = []) : sQ W0 125 [pV pb, iQ w] (cW pb (ps, po) :: R) (.tuple #[iQ 0, iQ 2]) (cW pb (ps, po) :: R) := by
 have g : pR w = true := by grind [pR]
 refine am func125 ntmps125 ?_;refine ah (ao zv (w3 pb ps po n)) ?_;refine ah (aC Gy (AD w)) ?_;refine aD rfl (fun j => ?_) fun j => ?_;exact absurd j (by simp [g]);refine au 1 ?_;refine vZ (pb := pb) fun a c d b k h => ?_;have e := h.row w f;refine dr (B := jf w pb (b.getD w [], gr ps (.slice a po.length c) d) :: kH 3 (cu (((d.zip b).map eG).eraseIdx w)) :: osl 178 2 (.slice a po.length c) (po.flatMap fG) :: R) ?_ ?_;exact (Ent.cons (Ent.ofPerm (List.Perm.swap _ _ _))).trans (Ay f k h.len);refine aw ?_;refine aa (eL f) ?_;refine ah (ao Gx (AC pb w (b.getD w []) (gr ps (.slice a po.length c) d))) ?_;refine ai (fun l => ?_) fun l => ?_;refine aA ?_;refine ⟨_, ⟨rfl, rfl⟩, ?_⟩;have m : b.set w (b.getD w []) = b := by
  apply QaS (by simp);intro i p q;rw [List.getElem_set];split;grind;rfl
 exact Ent.trans (B := jf w pb (b.getD w [], gr ps (.slice a po.length c) d) :: osl 178 2 (.slice a po.length c) (po.flatMap fG) :: kH 3 (cu (((d.zip b).map eG).eraseIdx w)) :: R) inferInstance (Az f k rfl rfl h.len (by grind));exact absurd (by rw [e.1.length_eq, he]; rfl) l
structure Mm where
  fr : List aE
  pg : List Pl
  po : Po
structure GMem (i : Nat) (x : Mm) : Prop where
  fr : cC x.fr
  po : PoOk x.po
  pg : Pgs x.pg
  len : x.po.length = x.fr.length
  pl : PlOk x.fr.length x.pg
  own : ∀ t : Nat, t < 8 → aW x.pg t = true → dp x.po (bJ x.pg t).1.toNat = ((i : Int), true)
  all : ∀ f, f < x.po.length → dp x.po f = ((i : Int), true) → ∃ t : Nat, t < 8 ∧ aW x.pg t = true ∧ (bJ x.pg t).1 = (f : Int)
  far : ∀ t : Nat, 8 ≤ t → aW x.pg t = true → (dp x.po (bJ x.pg t).1.toNat).1 ≠ (i : Int)
  nul : ∀ f, f < x.po.length → dp x.po f = ((i : Int), false) → x.fr.getD f [] = cR
theorem MOk.frame {fr fr' pg d L T} (h : MOk fr pg d L T) (b : fr'.length = fr.length) (c : cC fr') (e : ∀ t : Nat, t < 8 → aW pg t = true → fr'.getD (bJ pg t).1.toNat [] = fr.getD (bJ pg t).1.toNat []) : MOk fr' pg d L T := by
 refine ⟨c, h.dl, h.P, by rw [b]; exact h.pl, h.ti, fun x f => ?_⟩;have a := h.ln x f;refine a.move a.at_.1 rfl fun t g i => ⟨i, fun q => EX b rfl rfl fun _ o m => ?_⟩
 have j := a.own;obtain ⟨k, rfl⟩ : ∃ k : Nat, t = (k : Int) := ⟨t.toNat, by rcases g with rfl | rfl <;> omega⟩
 have l : k < 8 := by omega
 have := e k l q;unfold kx;rw [b, this]
theorem yS {pg} (h : Pgs pg) {t} (b : aW pg t = true) : 0 ≤ (bJ pg t).1 ∧ (bJ pg t).1 < 32 := by
 have a := b;simp only [aW, Qar, Qai] at a;obtain ⟨i, rfl, c⟩ := kT a.1;rw [Qaf] at a;rw [bJ, Qad b, Qaf];have := h.ok i c a.2;simp only [lp, Qai] at this;omega
theorem GMem.at_ {i x} (h : GMem i x) {t} (a : aW x.pg t = true) : ∃ f : Nat, (bJ x.pg t).1 = f ∧ f < x.fr.length ∧ f < x.po.length := by
 have b := yS h.pg a;have c := h.pl.rng t a;exact ⟨(bJ x.pg t).1.toNat, by omega, by omega, by rw [h.len]; omega⟩
def nR (i n : Nat) (x : Mm) : Mm := ⟨x.fr.set (bJ x.pg n).1.toNat cR, fI x.pg n, x.po.set (bJ x.pg n).1.toNat ((i : Int), false)⟩
theorem Mg {fr} (h : cC fr) f : cC (fr.set f cR) := fun y a => by
 rcases Qco a with q | q;exact h y q;rw [q]; exact If
theorem BE {pg} {n : Nat} (d : pg.length = 12) {t} : aW (fI pg n) t = (aW pg t && decide (t ≠ n)) := by
 unfold fI;by_cases a : aW pg n = true;rw [Qad a, Qaf];by_cases e : t = (n : Int);subst e;rw [Qal (by simp), QcT];unfold aW;rw [Qaf];have b := KU a;obtain ⟨j, f, c⟩ := kT b;have : eh (pg.set n (0, 0)) n = (0, 0) := by grind [eh]
 rw [this]; simp;grind [hZ];grind
theorem Fv {pg} {n : Nat} {t} (e : t ≠ (n : Int)) : bJ (fI pg n) t = bJ pg t := by
 unfold fI;split;rw [Qaf]; exact (hZ e).2;rfl
theorem Fw {α : Type} {l : List α} {n k x d} (h : k ≠ n) : (l.set n x).getD k d = l.getD k d := by
 grind
theorem a9F {α : Type} {l : List α} {n x d} (h : n < l.length) : (l.set n x).getD n d = x := by
 grind
theorem GMem.give {i n : Nat} {x} (h : GMem i x) (hn : n < 8) (ht : aW x.pg n = true) (hi : i < 16) : GMem i (nR i n x) := by
 obtain ⟨f, hf, hff, hfp⟩ := h.at_ ht;have ho := h.own n hn ht;rw [hf, Qaf] at ho;have hg : nR i n x = ⟨x.fr.set f cR, fI x.pg n, x.po.set f ((i : Int), false)⟩ := by grind [nR]
 rw [hg];have ne : ∀ t : Nat, aW (fI x.pg n) t = true → aW x.pg t = true ∧ t ≠ n ∧ bJ (fI x.pg n) t = bJ x.pg t ∧ (bJ x.pg t).1.toNat ≠ f := fun t q => by
  rw [BE h.pg.len, Qar, Qaj] at q;have e : (t : Int) ≠ (n : Int) := q.2;refine ⟨q.1, fun e2 => e (by rw [e2]), Fv e, fun e2 => e ?_⟩;have h1 := yS h.pg q.1;exact h.pl.inj _ _ q.1 ht (by omega)
 refine ⟨Mg h.fr f, h.po.set hfp (by simp) (by simp; omega), KV h.pg, by rw [Qam, Qam]; exact h.len, ?_, fun t h8 q => ?_, fun k hk q => ?_, fun t h8 q => ?_, fun k hk q => ?_⟩;rw [Qam];exact LG (n := n) h.pg.len h.pl;obtain ⟨q1, q2, q3, q4⟩ := ne t q;dsimp only at q ⊢;rw [q3, jV hfp, Qab q4];exact h.own t h8 q1;dsimp only at hk q ⊢;rw [Qam] at hk;rw [jV hfp] at q;split at q;grind
 rename_i e
 obtain ⟨t, h8, h1, h2⟩ := h.all k hk q;have hne : t ≠ n := fun e2 => e (by grind);refine ⟨t, h8, ?_, ?_⟩;rw [BE h.pg.len, h1, Qbe, Qaj];intro e2; exact hne (by omega);grind [Fv];obtain ⟨q1, q2, q3, q4⟩ := ne t q;dsimp only at q ⊢;rw [q3, jV hfp, Qab q4];exact h.far t h8 q1;dsimp only at hk q ⊢;rw [Qam] at hk;rw [jV hfp] at q;by_cases e : k = f;grind;rw [Qab e] at q;rw [Fw e];exact h.nul k hk q
def kO (i n : Nat) (x : Mm) : Mm := if aW x.pg n then nR i n x else x
def cN (i : Nat) : Nat → Mm → Mm
 | 0, x => x
 | n + 1, x => kO i n (cN i n x)
theorem GMem.strip {i x} (h : GMem i x) (a : i < 16) : ∀ n, n ≤ 8 → GMem i (cN i n x)
 | 0, _ => h
 | n + 1, c => by
  have b := h.strip a n (by omega);rw [cN, kO];split
  rename_i q; exact b.give (by omega) q a
  exact b
theorem a4y {pg} {n : Nat} (h : aW pg n = true) : qV pg n = 0 := by rw [qV, Qad (KU h), Qad h]
theorem a4z pb ps pm i x (h : GMem i x) (hi : i < 16) : sP W0 134 [pV pb, pV pm] (cW pb (ps, x.po) :: bB ps x.fr :: pt pm (bN x.pg) :: R) (fun v B => ∃ k : Nat, v = iQ k ∧ B = cW pb (ps, (cN i 8 x).po) :: bB ps (cN i 8 x).fr :: pt pm (bN (cN i 8 x).pg) :: R) := by
 refine am func134 ntmps134 ?_;refine d7 (fun X : Nat × Nat => X.1 ≤ 8 ∧ X.2 ≤ X.1) (fun X => [(0, pV pb), (1, pV pm), (5, iQ X.2), (9, iQ X.1)]) (fun X => cW pb (ps, (cN i X.1 x).po) :: bB ps (cN i X.1 x).fr :: pt pm (bN (cN i X.1 x).pg) :: R) (fun X => 8 - X.1) (0, 0) ?_ ?_;omega;intro ⟨n, m⟩ ⟨hn, hm⟩;dsimp only at hn hm ⊢;have hg := h.strip hi n hn;have hs : cN i (n + 1) x = kO i n (cN i n x) := rfl;obtain ⟨y, hy⟩ : ∃ y, cN i n x = y := ⟨_, rfl⟩
 rw [hy] at hg hs ⊢;refine aw ?_;refine aD rfl (fun c3 => ?_) fun c3 => ?_;refine au 2 ?_;refine dw (fun X : Nat => n < 8 ∧ X ≤ n + 1) (fun X => [(0, pV pb), (1, pV pm), (5, iQ X), (9, iQ n)]) (fun X => cW pb (ps, (kO i n y).po) :: bB ps (kO i n y).fr :: pt pm (bN (kO i n y).pg) :: R) ?_ ?_;refine au 11 ?_;refine ah (ao vl (sZ pm y.pg hg.pg n)) ?_;refine bi fun b1 => ?_;refine av aB ?_;refine cv (fun g6_3 => ?_) fun g6_3 => ?_;have hth : aW y.pg n = false := by grind
 have e1 : kO i n y = y := by grind [kO]
 refine bY m ?_ (he := ?_);omega;rw [e1];exact IO;have hth : aW y.pg n = true := by grind
 obtain ⟨f, hf, hff, hfp⟩ := hg.at_ hth;have ho := hg.own n (by omega) hth;rw [hf, Qaf] at ho;have e1 : kO i n y = ⟨y.fr.set f cR, fI y.pg n, y.po.set f ((i : Int), false)⟩ := by
  grind [kO, nR]
 refine ah (ao Gr (KW pm y.pg hg.pg n)) ?_;refine aD rfl (fun c6 => ?_) fun c6 => ?_;exact absurd c6 (by rw [a4y hth]; decide);refine au 6 ?_;refine ac rfl (aF (aJ (v := iQ f) (by grind))) ?_;refine ah (cA call131 (Mf pb ps y.po y.fr f i hfp hff hi hg.po ho)) ?_;refine aa (ee (m + 1)) ?_;refine bY (m + 1) ?_ (he := ?_);omega;rw [e1];exact IO;intro X ⟨hn8, hX⟩;refine aw ?_;refine aa co ?_;refine bM (n + 1, X) ?_ (he := ?_);omega;show Ent _ (cW pb (ps, (cN i (n + 1) x).po) :: bB ps (cN i (n + 1) x).fr :: pt pm (bN (cN i (n + 1) x).pg) :: R);rw [hs];exact IO;refine aw ?_;refine ae ?_;obtain rfl : n = 8 := by omega
 rw [hy];exact ⟨_, ⟨m, rfl, rfl⟩, IO⟩
theorem BF {pg} {n f : Nat} (a : pg.length = 12) (b : n < 8) {t} : aW (pg.set n (f, 3)) t = (aW pg t || decide (t = n)) := by
 by_cases e : t = (n : Int);grind [Bt];grind [hZ]
theorem GMem.come {i n f : Nat} {x} (h : GMem i x) (D : i < 16) (s : n < 8) (u : aW x.pg n = false) (g : f < x.po.length) (j : dp x.po f = ((i : Int), false)) fr' (y : cC fr') (v : fr'.length = x.fr.length) (z : ∀ k, k ≠ f → fr'.getD k [] = x.fr.getD k []) :
    GMem i ⟨fr', eA x.pg n (f, 3), x.po.set f (i, true)⟩ ∧ gm x.pg n (f, 3) = 0 := by
 have l : f < 32 := by have := h.po.len; omega
 have A := JE s l u;have w : eA x.pg n ((f : Int), 3) = x.pg.set n ((f : Int), 3) := by grind [eA]
 have a := h.pg.len;have B := (Bt (p := ((f : Int), 3)) a (show n < 12 by omega) (by grind)).2;have d : ∀ t : Int, aW x.pg t = true → (bJ x.pg t).1 ≠ (f : Int) := fun t q e => by
  have m := q;simp only [aW, Qar] at m;obtain ⟨k, rfl, c⟩ := kT m.1;rcases QaD k 8 with b | b;have := h.own k b q;rw [e, Qaf, j] at this;have := (Qdb this).2; cases this;have := h.far k b q;rw [e, Qaf, j] at this;exact this rfl
 refine ⟨?_, A⟩;rw [w];refine ⟨y, h.po.set g (by simp) (by simp; omega), ?_, by rw [Qam, v]; exact h.len, ?_, fun t b q => ?_, fun k c q => ?_, fun t b q => ?_, fun k c q => ?_⟩;have := vN (n := (n : Int)) (p := ((f : Int), 3)) h.pg
 rwa [w] at this
 rw [v];exact h.pl.set a (by omega) (by grind) (by have := h.len; omega) fun t q e => d t q e;dsimp only at q ⊢;rw [BF a s] at q;by_cases e : (t : Int) = (n : Int);grind [Qaf, jV];rw [Qal e, QcK] at q;have o := yS h.pg q;rw [(hZ e).2, jV g, Qab (fun r => d t q (by omega))];exact h.own t b q;dsimp only at c q ⊢;rw [Qam] at c;rw [jV g] at q;by_cases e : k = f;grind [BF];rw [Qab e] at q;obtain ⟨t, b, o, C⟩ := h.all k c q;have r : (t : Int) ≠ (n : Int) := fun r => by rw [r, u] at o; cases o
 exact ⟨t, b, by rw [BF a s, o, Qbu], by rw [(hZ r).2]; exact C⟩;dsimp only at q ⊢;rw [BF a s] at q;have e : (t : Int) ≠ (n : Int) := by omega
 rw [Qal e, QcK] at q;have o := yS h.pg q;rw [(hZ e).2, jV g, Qab (fun r => d t q (by omega))];exact h.far t b q;dsimp only at c q ⊢;rw [Qam] at c;rw [jV g] at q;by_cases e : k = f;grind;rw [Qab e] at q;rw [z k e];exact h.nul k c q
theorem a4A {fr f o w x} {k : Nat} (hk : k ≠ f) : (g6 fr f o w x).getD k [] = fr.getD k [] := by
 grind [g6]
theorem Mh {f} : ∀ {l : List Nat} {j : Nat} {fr : List aE} {k : Nat}, k ≠ f → (j5 f l j fr).getD k [] = fr.getD k []
 | [], _, _, _, _ => rfl
 | y :: t, j, fr, k, h => by rw [j5, Mh h, a4A h]
def wG (x : Im) : Mm := ⟨x.fr, x.pg, x.po⟩
theorem GMem.lay {i words x} (h : GMem i (wG x)) (a : i < 16) (b : qI x.pg 0 8) : ∀ n, n ≤ 8 → n ≤ (cm x.po i).length → GMem i (wG (dq i words n x))
 | 0, _, _ => h
 | n + 1, q, r => by
  have c := h.lay (words := words) a b n (by omega) (by omega);have j := (Ar (who := i) (words := words) b h.pg.len n (by omega)).1 n (Qao _) (by omega);have d := Aq (who := i) (words := words) (x := x) n;rw [dq, kG]
  cases e : cm (dq i words n x).po i with
  | nil => rw [e] at d; simp at d; omega
  | cons f l =>
   have g := kX.1 (show f ∈ cm (dq i words n x).po i by rw [e]; simp);obtain ⟨m, o⟩ := uD (f := f) (l := et words n) (k := 0) c.fr;exact (c.come a (by omega) j g.1 g.2 _ m o (fun k p => Mh p)).1
abbrev yT (g : Gu) (e w : Nat) : Gu := { g with c := ⟨qT g.c.rl e w, cV g.c.pc, g.c.cs⟩ }
abbrev BG (g : Gu) (e w : Nat) : Gu := oC (yT g e w) 2 (bP g.c.rl 1) e g.c.pc
section
variable (W0 : World) (R : List HP) (gb : Nat) (z : Gz) (g : Gu) (N : Nat)
theorem a4B (hk : g.clock < 1000000000) (a : g.c.rl.length = 16) : sQ W0 60 [pV gb] (gN gb z g R) (iQ 0) (gN gb z (oC (fg g) 4 0 0 g.c.pc) R) := by
 refine am func60 ntmps60 ?_;refine ah (ao mw (lU W0 _ gb z g)) ?_;refine av (iJ (by exact rfl : (mn z g).set 8 (.bool true) = mn z (fg g))) ?_;refine ah (ao sD (qS z.x.r g.c.rl g.c.pc a)) ?_;refine ah (cK vo (tJ W0 _ gb z (fg g) hk a 4 0 0 g.c.pc)) ?_;exact ae ap
theorem a4C (hk : g.clock < 1000000000) (a : g.c.rl.length = 16) n w e (d : u32 n = e) : sQ W0 64 [pV gb, iQ n, wV w] (gN gb z g R) (iQ 0) (gN gb z (BG g e w) R) := by
 have b : (qT g.c.rl e w).length = 16 := by simp [qT, a]
 refine am func64 ntmps64 ?_;refine ah (ao mw (lU W0 _ gb z g)) ?_;refine ah (ao Ob (EH z.x.r g.c.rl g.c.pc 1 a (by decide))) ?_;refine ah (ao sD (qS z.x.r g.c.rl g.c.pc a)) ?_;refine aa (bD (by rw [d8, d] : IntKind.wrap .u32 n = ((e : Nat) : Int))) ?_;refine ah (ao CF (Ey W0 _ z.x.r g.c.rl g.c.pc 1 e a (by decide) (by decide))) ?_;refine ah (ao CF (Ey W0 _ z.x.r (g.c.rl.set 1 e) g.c.pc 2 w (by simp [a]) (by decide) (by decide))) ?_;refine aa (cY rfl rfl (d8 _)) ?_;refine ah (ao CE (yh z.x.r (qT g.c.rl e w) g.c.pc (cV g.c.pc) b)) ?_;refine aa (bD (by rw [d8, d] : IntKind.wrap .u32 n = ((e : Nat) : Int))) ?_;refine ah (cK vo (tJ W0 _ gb z (yT g e w) hk b 2 (bP g.c.rl 1) e g.c.pc)) ?_;exact ae ap
theorem Fx (a : g.c.rl.length = 16) : sQ W0 13 [pV gb] (pt gb (dC z g) :: pt z.x.r (dR g.c.rl g.c.pc) :: R) (.agg (g.c.rl.map wV).toArray) (pt gb (dC z g) :: pt z.x.r (dR g.c.rl g.c.pc) :: R) := by
 refine am func13 ntmps13 ?_;refine bi fun b => ?_;refine ah (ao mw (lU W0 _ gb z g)) ?_;refine ah (ao call75 (JX z.x.r g.c.rl g.c.pc a)) ?_;refine av (fM nY rfl rfl (by grind) (AR g.c.rl) rfl) ?_;exact aS (.cons (aX vm nY rfl (by grind)) .nil) ap
theorem a4D (a : g.c.rl.length = 16) i x : sQ W0 67 [pV gb, iQ i, wV x] (pt gb (dC z g) :: pt z.x.r (dR g.c.rl g.c.pc) :: R) (iQ (if hJ i then 0 else 1)) (pt gb (dC z g) :: pt z.x.r (dR (if hJ i then je g.c.rl i.toNat x else g.c.rl) g.c.pc) :: R) := by
 refine am func67 ntmps67 ?_;refine ah (ao mw (lU W0 _ gb z g)) ?_;refine ah (ao CF (F3 z.x.r g.c.rl g.c.pc x i a)) ?_;exact ae ap
theorem Fy : sQ W0 42 [pV gb] (pt gb (dC z g) :: R) (pV z.pv) (pt gb (dC z g) :: R) := by
 refine am func42 ntmps42 ?_;refine ah (ao mw (lU W0 _ gb z g)) ?_;exact ae ap
theorem a4E : bH Tryz.prog W0 50 [pV gb] (pt gb (dC z g) :: R) (fun v B => v = pV z.x.v ∧ B = pt gb (dC z g) :: R) := by
 refine am func50 ntmps50 ?_;refine ah (ao mw (lU W0 _ gb z g)) ?_;exact ae ap
theorem a4F : sQ W0 69 [pV gb] (pt gb (dC z g) :: R) (lD z.x.t) (pt gb (dC z g) :: R) := by
 refine am func69 ntmps69 ?_;refine ah (ao mw (lU W0 _ gb z g)) ?_;exact ae ap
theorem a4G : sQ W0 38 [pV gb] (pt gb (dC z g) :: R) (pV z.tr) (pt gb (dC z g) :: R) := by
 refine am func38 ntmps38 ?_;refine ah (ao mw (lU W0 _ gb z g)) ?_;exact ae ap
theorem a4H : sQ W0 40 [pV gb] (pt gb (dC z g) :: R) (pV z.bx) (pt gb (dC z g) :: R) := by
 refine am func40 ntmps40 ?_;refine ah (ao mw (lU W0 _ gb z g)) ?_;exact ae ap
theorem Mi : sQ W0 15 [pV gb] (pt gb (dC z g) :: R) (iQ g.clock) (pt gb (dC z g) :: R) := by
 refine am func15 ntmps15 ?_;refine ah (ao mw (lU W0 _ gb z g)) ?_;exact ae ap
theorem a4I : sQ W0 36 [pV gb] (pt gb (dC z g) :: R) (.bool g.halted) (pt gb (dC z g) :: R) := by
 refine am func36 ntmps36 ?_;refine ah (ao mw (lU W0 _ gb z g)) ?_;refine i6 rfl rfl rfl (fun a => ?_) fun a => ?_;refine au 14 ?_;exact ae ap
 first | exact absurd rfl a | exact absurd (by decide) a | simp at a
theorem Mj (a : g.c.rl.length = 16) : sQ W0 14 [pV gb] (pt gb (dC z g) :: pt z.x.r (dR g.c.rl g.c.pc) :: R) (wV g.c.pc) (pt gb (dC z g) :: pt z.x.r (dR g.c.rl g.c.pc) :: R) := by
 refine am func14 ntmps14 ?_;refine ah (ao mw (lU W0 _ gb z g)) ?_;refine ah (ao sD (qS z.x.r g.c.rl g.c.pc a)) ?_;exact ae ap
theorem Mk {W0 R} p : sQ W0 124 [iQ p] R (.bool (decide (0 ≤ p ∧ p < 8))) R := by
 refine am func124 ntmps124 ?_;refine ci (fun a => ?_) fun a => ?_;rw [show decide (0 ≤ p ∧ p < 8) = decide (p < 8) by apply Qaz.2; omega];exact ae ap;rw [show decide (0 ≤ p ∧ p < 8) = false by apply Qal; omega];exact ae ap
end
def s8 (p : Int) : Bool := decide (0 ≤ p ∧ p < 8)
theorem v5 {p} (h : s8 p = true) : ∃ n : Nat, p = n ∧ n < 8 := by
 have := Qas h;exact ⟨p.toNat, by omega, by omega⟩
def wH (i : Nat) (p : Int) (x : Mm) : Int := if s8 p then (if aW x.pg p then 5 else (if cm x.po i = [] then 2 else 0)) else 1
def mo (i : Nat) (p : Int) (x : Mm) : Mm :=
  if s8 p && !aW x.pg p then (match cm x.po i with | f :: _ => ⟨x.fr, eA x.pg p ((f : Int), 3), x.po.set f ((i : Int), true)⟩ | [] => x) else x
def BH (p : Int) (x : Mm) : Int := if s8 p then (if aW x.pg p then 0 else 3) else 1
def mp (i : Nat) (p : Int) (x : Mm) : Mm := if s8 p && aW x.pg p then nR i p.toNat x else x
theorem GMem.take {i p x} (h : GMem i x) (b : i < 16) : GMem i (mo i p x) := by
 unfold mo;split
 rename_i q
 simp only [Qar, Bool.not_eq_true'] at q;obtain ⟨n, rfl, c⟩ := v5 q.1
 cases e : cm x.po i with
 | nil => exact h
 | cons f l =>
  have a := kX.1 (show f ∈ cm x.po i by rw [e]; simp);exact (h.come b c q.2 a.1 a.2 x.fr h.fr rfl (fun _ _ => rfl)).1
 exact h
theorem GMem.gave {i p x} (h : GMem i x) (a : i < 16) : GMem i (mp i p x) := by
 unfold mp;split
 rename_i q
 simp only [Qar] at q;obtain ⟨n, rfl, b⟩ := v5 q.1;rw [Qaf];exact h.give b q.2 a;exact h
section
variable (W0 : World) (R : List HP) (gb : Nat) (z : Gz) (g : Gu) (N : Nat)
theorem a4J (hi : z.i < 4) p x (h : GMem z.i x) (W : 0 < x.po.length) : sQ W0 53 [pV gb, iQ p] (pt gb (dC z g) :: iB z.x.m ⟨z.pv, z.ps, z.pm, g.bud, x.fr, x.pg⟩ :: cW z.pb (z.ps, x.po) :: R) (iQ (wH z.i p x)) (pt gb (dC z g) :: iB z.x.m ⟨z.pv, z.ps, z.pm, g.bud, (mo z.i p x).fr, (mo z.i p x).pg⟩ :: cW z.pb (z.ps, (mo z.i p x).po) :: R) := by
 obtain ⟨Y, s⟩ : ∃ b, aW x.pg p = b := ⟨_, rfl⟩
 obtain ⟨G, w⟩ : ∃ b, s8 p = b := ⟨_, rfl⟩
 have y : decide (0 ≤ p ∧ p < 8) = G := w;rw [wH, mo, w, s];refine nv (List.Perm.swap _ _ _) (r9 fun o r c T L j d N O P Q => ?_);have a : ∀ X : List HP, Ent (pt gb (dC z g) :: pt z.x.m (cX z.pv o r) :: aZ o (c, dx 4 j) :: bQ r L :: pt z.pv (cB z.ps z.pm d) :: pt z.pm (bN x.pg) :: X) (pt gb (dC z g) :: iB z.x.m ⟨z.pv, z.ps, z.pm, g.bud, x.fr, x.pg⟩ :: X) := fun X => Ent.cons (pq N O P Q);refine am func53 ntmps53 ?_;refine ah (ao mw (lU W0 _ gb z g)) ?_;refine ah (aC call124 (Mk p)) ?_;rw [y];refine ai (fun S => ?_) fun S => ?_;refine ae ?_;rw [show G = false by simpa using S];exact ⟨_, ⟨rfl, rfl⟩, Ent.trans (B := pt gb (dC z g) :: pt z.x.m (cX z.pv o r) :: aZ o (c, dx 4 j) :: bQ r L :: pt z.pv (cB z.ps z.pm d) :: pt z.pm (bN x.pg) :: cW z.pb (z.ps, x.po) :: R) inferInstance (a _)⟩;have U : G = true := by grind
 rw [U];obtain ⟨n, rfl, Z⟩ := v5 (w.trans U);refine ah (ao tU (rK z.pv z.ps z.pm d)) ?_;refine ah (ao vl (sZ z.pm x.pg h.pg n)) ?_;rw [s];refine bi fun b5 => ?_;refine av aB ?_;refine ai (fun V => ?_) fun V => ?_;refine ae ?_;rw [V];exact ⟨_, ⟨rfl, rfl⟩, Ent.trans (B := pt gb (dC z g) :: pt z.x.m (cX z.pv o r) :: aZ o (c, dx 4 j) :: bQ r L :: pt z.pv (cB z.ps z.pm d) :: pt z.pm (bN x.pg) :: cW z.pb (z.ps, x.po) :: R) inferInstance (a _)⟩;have A : Y = false := by grind
 rw [A];rw [A] at s;obtain ⟨F, u⟩ : ∃ l, cm x.po z.i = l := ⟨_, rfl⟩
 rw [u];obtain ⟨e, f, H⟩ : ∃ e f, (∀ R, bH Tryz.prog W0 125 [pV z.pb, iQ z.i] (cW z.pb (z.ps, x.po) :: R) (fun v B => v = .tuple #[iQ ((f : Nat) : Int), iQ e] ∧ B = cW z.pb (z.ps, if e = 0 then x.po.set f ((z.i : Int), true) else x.po) :: R)) ∧ (e = 0 ∧ (∃ l, F = f :: l) ∨ e = 2 ∧ F = []) := by
  cases F with
  | nil => exact ⟨2, 0, fun R => by rw [Qab (by decide)]; exact a4x z.pb z.ps x.po z.i W (by omega) h.po u, .inr ⟨rfl, rfl⟩⟩
  | cons f l => exact ⟨0, f, fun R => by rw [Qad rfl]; exact Ja z.pb z.ps x.po z.i f l (by omega) h.po u, .inl ⟨rfl, l, rfl⟩⟩
 obtain ⟨I, J⟩ := H;refine bc [gb] 14 fun K => ?_;refine aj 0 8 K ?_;refine bG 8 (ao call125 (I _)) fun K => ?_;refine aj 9 5 K ?_;refine aK ?_;refine aD rfl (fun c9 => ?_) fun c9 => ?_;refine au 8 ?_;refine ae ?_;rcases J with ⟨q, _⟩ | ⟨rfl, rfl⟩;omega;rw [Qab (show ¬((2 : Int) = 0) by decide)];exact ⟨_, ⟨rfl, rfl⟩, Ent.trans (B := pt gb (dC z g) :: pt z.x.m (cX z.pv o r) :: aZ o (c, dx 4 j) :: bQ r L :: pt z.pv (cB z.ps z.pm d) :: pt z.pm (bN x.pg) :: cW z.pb (z.ps, x.po) :: R) inferInstance (a _)⟩;refine au 3 ?_;obtain ⟨rfl, l, rfl⟩ : e = 0 ∧ ∃ l, F = f :: l := by
  grind
 rw [Qad (show (0 : Int) = 0 from rfl)];have C := kX.1 (show f ∈ cm x.po z.i by rw [u]; simp);obtain ⟨hG, hE⟩ := h.come (by omega) Z s C.1 C.2 x.fr h.fr rfl (fun _ _ => rfl);have D := Q.come (n := n) (p := ((f : Int), 3)) (by have := C.1; have := h.len; show (f : Int) < _; omega) fun t q e => by
  have E := q;simp only [aW, Qar] at E;obtain ⟨k, rfl, hk⟩ := kT E.1;rcases QaD k 8 with M | M;have := h.own k M q;rw [e, Qaf, C.2] at this;have := (Qdb this).2; cases this;have := h.far k M q;rw [e, Qaf, C.2] at this;exact this rfl
 refine aw ?_;refine ah (ao tU (rK z.pv z.ps z.pm d)) ?_;refine ah (ao NS (Dt z.pm x.pg h.pg n ((f : Int), 3))) ?_;rw [hE];refine ae ?_;refine ⟨_, ⟨rfl, rfl⟩, ?_⟩;exact Ent.trans (B := pt gb (dC z g) :: pt z.x.m (cX z.pv o r) :: aZ o (c, dx 4 j) :: bQ r L :: pt z.pv (cB z.ps z.pm d) :: pt z.pm (bN (eA x.pg n ((f : Int), 3))) :: cW z.pb (z.ps, x.po.set f ((z.i : Int), true)) :: R) inferInstance (Ent.cons (pq N O P D))
theorem a4K (hi : z.i < 4) p x (h : GMem z.i x) : sQ W0 55 [pV gb, .int .i64 p] (pt gb (dC z g) :: iB z.x.m ⟨z.pv, z.ps, z.pm, g.bud, x.fr, x.pg⟩ :: cW z.pb (z.ps, x.po) :: bB z.ps x.fr :: R) (.int .i64 (BH p x)) (pt gb (dC z g) :: iB z.x.m ⟨z.pv, z.ps, z.pm, g.bud, (mp z.i p x).fr, (mp z.i p x).pg⟩ :: cW z.pb (z.ps, (mp z.i p x).po) :: bB z.ps (mp z.i p x).fr :: R) := by
 obtain ⟨th, hth⟩ : ∃ b, aW x.pg p = b := ⟨_, rfl⟩
 obtain ⟨ow, how⟩ : ∃ b, s8 p = b := ⟨_, rfl⟩
 have how2 : decide (0 ≤ p ∧ p < 8) = ow := how;rw [BH, mp, how, hth];refine nv (List.Perm.swap _ _ _) (r9 fun bt bs its T L now d h1 h2 h3 h4 => ?_);have hclose : ∀ X : List HP, Ent (pt gb (dC z g) :: pt z.x.m (cX z.pv bt bs) :: aZ bt (its, dx 4 now) :: bQ bs L :: pt z.pv (cB z.ps z.pm d) :: pt z.pm (bN x.pg) :: X) (pt gb (dC z g) :: iB z.x.m ⟨z.pv, z.ps, z.pm, g.bud, x.fr, x.pg⟩ :: X) := fun X => Ent.cons (pq h1 h2 h3 h4);refine jq 10 func55 ntmps55 ?_;refine ew 3 (iZ mw rfl (lU W0 _ gb z g)) ?_;refine aD rfl (fun c1 => ?_) fun c1 => ?_;exact absurd c1 (by decide);refine au 3 ?_;refine ku (iR call124 rfl (Mk p)) ?_;rw [how2];refine au 4 ?_;refine aD rfl (fun c3 => ?_) fun c3 => ?_;refine au 8 ?_;refine ae ?_;rw [show ow = false by simpa using c3];exact ⟨_, ⟨rfl, rfl⟩, Ent.trans (B := pt gb (dC z g) :: pt z.x.m (cX z.pv bt bs) :: aZ bt (its, dx 4 now) :: bQ bs L :: pt z.pv (cB z.ps z.pm d) :: pt z.pm (bN x.pg) :: cW z.pb (z.ps, x.po) :: bB z.ps x.fr :: R) inferInstance (hclose _)⟩;refine au 4 ?_;have ho : ow = true := by grind
 rw [ho];obtain ⟨n, rfl, hn⟩ := v5 (how.trans ho);refine au 5 ?_;refine ku (iZ tU rfl (rK z.pv z.ps z.pm d)) ?_;refine ac rfl (aM rfl) (ku (iZ vl rfl (sZ z.pm x.pg h.pg n)) ?_);rw [hth];refine au 3 ?_;refine fi (dQ Cj) fun b5 => ?_;refine jb 10 (fM pZ rfl rfl rfl rfl rfl) ?_;refine aD rfl (fun c6 => ?_) fun c6 => ?_;refine au 7 ?_;refine ae ?_;rw [show th = false by simpa using c6];exact ⟨_, ⟨rfl, rfl⟩, Ent.trans (B := pt gb (dC z g) :: pt z.x.m (cX z.pv bt bs) :: aZ bt (its, dx 4 now) :: bQ bs L :: pt z.pv (cB z.ps z.pm d) :: pt z.pm (bN x.pg) :: cW z.pb (z.ps, x.po) :: bB z.ps x.fr :: R) inferInstance (hclose _)⟩;refine au 3 ?_;have ht1 : th = true := by grind
 rw [ht1];rw [ht1] at hth;obtain ⟨f, hf, hff, hfp⟩ := h.at_ hth;have hown := h.own n hn hth;rw [hf, Qaf] at hown;have hgv : nR z.i n x = ⟨x.fr.set f cR, fI x.pg n, x.po.set f ((z.i : Int), false)⟩ := by grind [nR]
 have hne : ∀ t : Nat, t < 8 → aW (fI x.pg n) t = true → (x.fr.set f cR).getD (bJ (fI x.pg n) t).1.toNat [] = x.fr.getD (bJ (fI x.pg n) t).1.toNat [] := fun t h8 q => by
  rw [BE h.pg.len, Qar, Qaj] at q;have h5 := yS h.pg q.1;rw [Fv q.2];exact Fw fun e2 => q.2 (h.pl.inj _ _ q.1 hth (by omega))
 refine au 5 ?_;refine ku (iZ tU rfl (rK z.pv z.ps z.pm d)) ?_;refine ac rfl (aM rfl) (ew 10 (iZ Gr rfl (KW z.pm x.pg h.pg n)) ?_);refine aG rfl (mG call130 rfl (a3k z.x.m z.pv bt bs z.ps z.pm d its 4 now T L x.fr x.pg h1 h2 (by decide) n h4)) ?_;rintro _ B_ ⟨rfl, its2, T2, L2, hB_, k1, k2, k3⟩;obtain rfl := hB_.symm;have k4 := k3.frame (fr' := x.fr.set f cR) (by simp) (Mg h.fr f) hne;refine au 3 ?_;refine eV [(gb, 0, _), (b5, 0, _)] 8 mixed rfl (bL (bL bE)) (fun hS => ?_);refine aj 0 5 hS ?_;refine bu 5 rfl rfl rfl hS (cg db rfl (cp (j := 0) (k := 1) (v := .int .i64 f) rfl (by grind))) ?_;refine gB 6 rfl rfl (zP call131 rfl (Mf z.pb z.ps x.po x.fr f z.i hfp hff (by omega) h.po hown)) (bL (bL bE)) fun hS => ?_;refine aj 7 1 hS ?_;refine gC ?_;refine au 2 ?_;refine ae ?_;rw [Qad rfl, Qad (by rfl), Qaf, hgv];refine ⟨_, ⟨rfl, rfl⟩, ?_⟩;exact Ent.trans (B := pt gb (dC z g) :: pt z.x.m (cX z.pv bt bs) :: aZ bt (its2, dx 4 now) :: bQ bs L2 :: pt z.pv (cB z.ps z.pm 0) :: pt z.pm (bN (fI x.pg n)) :: cW z.pb (z.ps, x.po.set f ((z.i : Int), false)) :: bB z.ps (x.fr.set f cR) :: R) inferInstance (Ent.cons (pq k1 k2 h3 k4))
end
abbrev Fz : Tm := ⟨[false, false, false, false], 0, []⟩
abbrev oE : List Nat := [0, 0, 0, 0, 0, 4, 0]
abbrev BI : List Li := List.replicate 8 default
theorem a4L {b R} : Ent (pt b (ag [ek, .bool true] 442) :: R) (bQ b [] :: R) :=
  (Ent.cons (fQ (E := 389) (sz := 7) (A := R) (B := R))).trans (g5 (R := R) (C := [_, _]) ⟨none, 0, rfl⟩)
theorem FA {fr pg} (a : cC fr) (b : Pgs pg) (c : PlOk fr.length pg) : MOk fr pg 0 [] [] := ⟨a, by decide, b, c, TI.nil, fun x d => by simp at d⟩
abbrev FB (x : Bd) (q0 q1 q2 i pv ps pm : Nat) (fr : List aE) (pg : List Pl) (R : List HP) : List HP := pt x.r (dR (List.replicate 16 0) 0) :: pt x.c (en oE i) :: iB x.m ⟨pv, ps, pm, 0, fr, pg⟩ :: nP x.v (BI, 0) :: nQ x.t Fz :: pt q0 (qO true dJ) :: pt q1 (qO true dJ) :: pt q2 (qO true dJ) :: R
theorem FC {x bt bs q0 q1 q2 i pv ps pm fr pg R} (h : MOk fr pg 0 [] []) : Ent (tu x i bt bs pv (kH 6 (cu [pt q0 (qO true dJ), pt q1 (qO true dJ), pt q2 (qO true dJ)]) :: pt pv (cB ps pm 0) :: pt pm (bN pg) :: R)) (FB x q0 q1 q2 i pv ps pm fr pg R) := by
 refine Ent.cons (Ent.cons ?_);show Ent (pt x.m (wj pv bt bs) :: aZ bt ([], dx 4 0) :: pt bs (ag [ek, .bool true] 442) :: pt x.v tf :: pt x.t tj :: kH 6 (cu [pt q0 (qO true dJ), pt q1 (qO true dJ), pt q2 (qO true dJ)]) :: pt pv (cB ps pm 0) :: pt pm (bN pg) :: R) _
 have a : Ent (pt x.m (wj pv bt bs) :: aZ bt ([], dx 4 0) :: pt bs (ag [ek, .bool true] 442) :: pt x.v tf :: pt x.t tj :: kH 6 (cu [pt q0 (qO true dJ), pt q1 (qO true dJ), pt q2 (qO true dJ)]) :: pt pv (cB ps pm 0) :: pt pm (bN pg) :: R)
     (kH 6 (cu [pt q0 (qO true dJ), pt q1 (qO true dJ), pt q2 (qO true dJ)]) :: pt bs (ag [ek, .bool true] 442) :: pt x.m (wj pv bt bs) :: aZ bt ([], dx 4 0) :: pt pv (cB ps pm 0) :: pt pm (bN pg) :: pt x.v tf :: pt x.t tj :: R) := inferInstance
 refine a.trans ((qg (A := [pt q0 (qO true dJ), pt q1 (qO true dJ), pt q2 (qO true dJ)])).trans ?_);refine Ent.trans (B := pt q0 (qO true dJ) :: pt q1 (qO true dJ) :: pt q2 (qO true dJ) :: bQ bs [] :: pt x.m (wj pv bt bs) :: aZ bt ([], dx 4 0) :: pt pv (cB ps pm 0) :: pt pm (bN pg) :: pt x.v tf :: pt x.t tj :: R) (Ent.cons (Ent.cons (Ent.cons a4L))) ?_;refine Ent.trans (B := pt x.m (cX pv bt bs) :: aZ bt ([], dx 4 0) :: bQ bs [] :: pt pv (cB ps pm 0) :: pt pm (bN pg) :: pt q0 (qO true dJ) :: pt q1 (qO true dJ) :: pt q2 (qO true dJ) :: pt x.v tf :: pt x.t tj :: R) inferInstance ?_;refine (pq (bud := 0) Rep.nil (QaK _) (Qao _) h).trans (Ent.cons ?_);refine Ent.trans (B := pt x.v (ag ((dY BI 0).set 32 ek) 229) :: pt x.t (ag ((fK [false, false, false, false] 0).set 0 ek) 256) :: pt q0 (qO true dJ) :: pt q1 (qO true dJ) :: pt q2 (qO true dJ) :: R) ?_ ?_;exact Ent.trans (B := pt x.v tf :: pt x.t tj :: pt q0 (qO true dJ) :: pt q1 (qO true dJ) :: pt q2 (qO true dJ) :: R) inferInstance ent_refl;exact a3Q.trans (Ent.cons a4e)
abbrev s9 (g : Gu) : Gu := ⟨⟨List.replicate 16 0, 0, oE⟩, dJ, dJ, dJ, BI, 0, Fz, false, [0, 0, 0, 0], g.clock, g.es, 0⟩
abbrev sd (g : Gu) : Gu := oC (s9 g) 5 0 0 0
def kP (i n : Nat) (ws : List Nat) (x : Mm) : Mm := wG (dq i (bz ws n) n ⟨(cN i 8 x).fr, (cN i 8 x).po, (cN i 8 x).pg⟩)
theorem FD {i x} (h : GMem i x) (a : i < 16) : ∀ n, n ≤ 8 → ∀ t, t < n → aW (cN i n x).pg t = false
 | 0, _, t, b => absurd b (Qcc t)
 | n + 1, d, t, b => by
  have c := h.strip a n (by omega);rw [cN, kO];by_cases q : aW (cN i n x).pg n = true;rw [Qad q];show aW (fI (cN i n x).pg n) (t : Nat) = false;rw [BE c.pg.len];by_cases e : t = n;subst e; simp;rw [FD h a n (by omega) t (by omega)]; rfl;rw [Qab q];by_cases e : t = n;grind;exact FD h a n (by omega) t (by omega)
theorem BJ {i x} (h : GMem i x) (a : i < 16) : qI (cN i 8 x).pg 0 8 := fun t _ b => FD h a 8 (Qao _) t b
def oG (i : Nat) (po : Po) : Nat := ((List.range po.length).filter fun f => (dp po f).1 == (i : Int)).length
theorem yU {i x} (h : GMem i x) (c : i < 16) : ∀ n, n ≤ 8 → (cN i n x).po.length = x.po.length ∧ ∀ f, (dp (cN i n x).po f).1 = (dp x.po f).1
 | 0, _ => ⟨rfl, fun _ => rfl⟩
 | n + 1, o => by
  obtain ⟨e, g⟩ := yU h c n (by omega);have d := h.strip c n (by omega);rw [cN, kO];split
  rename_i q
  obtain ⟨f, j, l, a⟩ := d.at_ q;have m := d.own n (by omega) q;rw [j, Qaf] at m;have b : (nR i n (cN i n x)).po = (cN i n x).po.set f ((i : Int), false) := by grind [nR]
  rw [b];refine ⟨by rw [Qam]; exact e, fun k => ?_⟩;rw [jV a];split;grind;exact g k;grind
attribute [local irreducible] cN
theorem FE {i x} (h : GMem i x) (a : i < 16) : (cm (cN i 8 x).po i).length = oG i x.po := by
 have c := h.strip a 8 (Qao _);obtain ⟨d, g⟩ := yU h a 8 (Qao _);have j := BJ h a;unfold oG cm;rw [d];refine Qak List.length (Qcv fun f m => ?_);have b : f < (cN i 8 x).po.length := by grind
 rw [← g f, Qag, Qba, Qba];constructor;grind;intro e
 cases k : (dp (cN i 8 x).po f).2 with
 | false => rw [← e, ← k]
 | true =>
  obtain ⟨t, l, q, _⟩ := c.all f b (by grind);rw [j t (QaK _) l] at q;cases q
theorem GMem.anew {i n ws x} (h : GMem i x) (a : i < 16) (b : n ≤ 8) (d : n ≤ oG i x.po) : GMem i (kP i n ws x) := by
 have c := h.strip a 8 (Qao _);exact GMem.lay (x := ⟨(cN i 8 x).fr, (cN i 8 x).po, (cN i 8 x).pg⟩) c a (BJ h a) n b (by grind [FE])
section
variable (W0 : World) (R : List HP) (gb : Nat) (z : Gz) (g : Gu) (N : Nat)
theorem a4M (hc : CfK W0 z.c) (hr : rt z.c = true) (hi : z.i < z.c.gl.length) (hk : g.clock < 1000000000) x (h : GMem z.i x) (h0 : 0 < x.po.length) (n : Nat) (hn : (dh z.c z.i).2.1 = n) (hpar : n ≤ oG z.i x.po) a cap ws (hw : z.wv = .slice a ws.length cap) (hs : ∀ A, Ent A R → cF (aT W0 A) a 1 j6 ws) (hb : ∀ y ∈ ws, y < 4294967296) (hwl : ws.length ≤ 128) : sP W0 57 [pV gb] (pt gb (dC z g) :: gx z.tr g.es :: iB z.x.m ⟨z.pv, z.ps, z.pm, g.bud, x.fr, x.pg⟩ :: cW z.pb (z.ps, x.po) :: bB z.ps x.fr :: R) (fun v B => ∃ y q0 q1 q2, v = iQ 0 ∧ B = pt gb (dC { z with x := y, q0 := q0, q1 := q1, q2 := q2 } (sd g)) :: gx z.tr (sd g).es :: cW z.pb (z.ps, (kP z.i n ws x).po) :: bB z.ps (kP z.i n ws x).fr :: FB y q0 q1 q2 z.i z.pv z.ps z.pm (kP z.i n ws x).fr (kP z.i n ws x).pg R) := by
 have M := lx hr;have S := M.g4;have F := M.gs z.i hi;rw [hn] at F;obtain ⟨N, o, G, l⟩ := (hc.ok.g []).at_ hi;obtain ⟨u, U⟩ : ∃ u, z.c.gl[z.i] = u := ⟨_, rfl⟩
 have O : dh z.c z.i = u := by grind [dh]
 rw [U] at l;have H : u.2.1 = (n : Int) := by grind
 have p := h.strip (show z.i < 16 by omega) 8 (Qao _);have r := BJ h (show z.i < 16 by omega);have P := FE h (show z.i < 16 by omega);have e := h.anew (n := n) (ws := ws) (show z.i < 16 by omega) (by omega) hpar;have I : ImOk ⟨(cN z.i 8 x).fr, (cN z.i 8 x).po, (cN z.i 8 x).pg⟩ := ⟨p.fr, p.po, p.pg, p.len⟩
 have V := (yU h (show z.i < 16 by omega) 8 (Qao _)).1;obtain ⟨s, C⟩ : ∃ y, dq z.i (bz ws n) n ⟨(cN z.i 8 x).fr, (cN z.i 8 x).po, (cN z.i 8 x).pg⟩ = y := ⟨_, rfl⟩
 have J : kP z.i n ws x = wG s := by rw [kP, C]
 rw [J] at e ⊢;refine nv (B := iB z.x.m ⟨z.pv, z.ps, z.pm, g.bud, x.fr, x.pg⟩ :: pt gb (dC z g) :: gx z.tr g.es :: cW z.pb (z.ps, x.po) :: bB z.ps x.fr :: R) ue (r9 fun bt bs W T L X d h1 h2 h3 Y => ?_);have hx : bF (aT W0 (pt gb (dC z g) :: R)) N (o + z.i * 3) (ix u) := l.weak;refine am func57 ntmps57 ?_;refine ah (ao mw (lU W0 _ gb z g)) ?_;refine bc [gb] 10 fun b => ?_;refine aj 0 8 b ?_;refine bG 8 (ao tU (rK z.pv z.ps z.pm d)) fun b => ?_;refine bX 9 (cK call134 (a4z z.pb z.ps z.pm z.i x h (by omega))) ?_; clear b;rintro _ E ⟨q, rfl, f⟩;obtain rfl := f.symm;refine ⟨aV, fun b => ?_⟩;refine aK ?_;refine eV [(gb, 0, mn z g), (N, o + z.i * 3, ix u)] 36 mixed rfl (bL (bU l.weak bE)) (fun b => ?_);refine aj 0 8 b ?_;refine aj 9 4 b ?_;refine aj 14 13 b ?_;refine az 27 b (eR mu kQ rfl G rfl rfl hi (by first | exact Qac _ | rfl)) ?_;refine aj 28 1 b ?_;refine az 29 b (aF (jB (j := 1) (k := 1) (v := iQ n) rfl (by rw [← H]; rfl))) ?_;refine aj 30 3 b ?_;refine az 33 b (aF (cp (k := 0) (v := .slice a ws.length cap) rfl (by rw [← hw]; rfl))) ?_;refine gB 8 rfl rfl (ao GO (Aa z.pv z.ps z.pm d)) (bL (bU l.weak bE)) fun b => ?_;refine gB 13 rfl rfl (ao tU (rK z.pv z.ps z.pm d)) (bL (bU l.weak bE)) fun b => ?_;refine bX 34 (cK call88 (JF z.pb z.ps z.pm z.i n ⟨(cN z.i 8 x).fr, (cN z.i 8 x).po, (cN z.i 8 x).pg⟩ I (by have := p.len; show 0 < (cN z.i 8 x).fr.length; omega) a cap ws (by omega) (by omega) (by omega) r (by grind) (by intro A O; exact hs A (O.trans inferInstance)) hb (by omega))) ?_; clear b;rintro _ E ⟨rfl, f⟩;obtain rfl := f.symm;rw [C];refine ⟨(bL (bU l.weak bE)), fun b => ?_⟩;refine aj 35 1 b ?_;refine aK ?_;refine ai (fun Q => ?_) fun Q => ?_;exact absurd rfl Q;refine aG rfl (ao call135 (IE z.pv z.ps z.pm d Y.dl)) ?_;rintro _ E ⟨da, dc, rfl, f⟩;obtain rfl := f.symm;refine aw ?_;refine bc [gb] 15 fun b => ?_;refine aj 0 8 b ?_;refine fP (is := [8, 12]) (by kernel_rfl) rfl ⟨?_, ?_, trivial⟩;refine dL (ao NX (ED z.i z.pv z.ps z.pm 0 (by omega))) ?_; clear b;rintro _ E ⟨y, t, w, q0, q1, q2, rfl, f⟩;obtain rfl := f.symm;refine ⟨aV, fun b => ?_⟩;refine aj 9 3 b ?_;refine bX 12 (dQ Nz) ?_; clear b;rintro _ _ ⟨Z, rfl, rfl⟩;refine ⟨aV, fun b => ?_⟩;refine cj 13 aB fun b => ?_;refine aj 14 1 b ?_;refine aK ?_;refine ai (fun D => ?_) fun D => ?_;exact absurd rfl D;refine av (iK (Qaa rfl) (by exact rfl : dk (mn z g) 0 (B4 y q0 q1 q2) = mn { z with x := y, q0 := q0, q1 := q1, q2 := q2 } (s9 g))) ?_;refine ah (cK vo (tJ W0 _ gb { z with x := y, q0 := q0, q1 := q1, q2 := q2 } (s9 g) hk rfl 5 0 0 0)) ?_;refine ae ?_;refine ⟨_, ⟨y, q0, q1, q2, rfl, rfl⟩, ?_⟩;have K := FA e.fr e.pg e.pl;refine Ent.trans (B := pt gb (dC { z with x := y, q0 := q0, q1 := q1, q2 := q2 } (sd g)) :: gx z.tr (sd g).es :: cW z.pb (z.ps, s.po) :: bB z.ps s.fr :: tu y z.i t w z.pv (kH 6 (cu [pt q0 (qO true dJ), pt q1 (qO true dJ), pt q2 (qO true dJ)]) :: pt z.pv (cB z.ps z.pm 0) :: pt z.pm (bN s.pg) :: R)) inferInstance ?_;exact Ent.cons (Ent.cons (Ent.cons (Ent.cons (FC K))));skip;refine dL (dQ Nz) ?_; clear b
 rintro _ _ ⟨Z, rfl, rfl⟩;refine ⟨aV, fun b => ?_⟩;refine bX 8 (ao NX (ED z.i z.pv z.ps z.pm 0 (by omega))) ?_; clear b;rintro _ E ⟨y, t, w, q0, q1, q2, rfl, f⟩;obtain rfl := f.symm;refine ⟨aV, fun b => ?_⟩;refine aj 9 3 b ?_;refine cj 13 aB fun b => ?_;refine aj 14 1 b ?_;refine aK ?_;refine ai (fun D => ?_) fun D => ?_;exact absurd rfl D;refine av (iK (Qaa rfl) (by exact rfl : dk (mn z g) 0 (B4 y q0 q1 q2) = mn { z with x := y, q0 := q0, q1 := q1, q2 := q2 } (s9 g))) ?_;refine ah (cK vo (tJ W0 _ gb { z with x := y, q0 := q0, q1 := q1, q2 := q2 } (s9 g) hk rfl 5 0 0 0)) ?_;refine ae ?_;refine ⟨_, ⟨y, q0, q1, q2, rfl, rfl⟩, ?_⟩;have K := FA e.fr e.pg e.pl;refine Ent.trans (B := pt gb (dC { z with x := y, q0 := q0, q1 := q1, q2 := q2 } (sd g)) :: gx z.tr (sd g).es :: cW z.pb (z.ps, s.po) :: bB z.ps s.fr :: tu y z.i t w z.pv (kH 6 (cu [pt q0 (qO true dJ), pt q1 (qO true dJ), pt q2 (qO true dJ)]) :: pt z.pv (cB z.ps z.pm 0) :: pt z.pm (bN s.pg) :: R)) inferInstance ?_;exact Ent.cons (Ent.cons (Ent.cons (Ent.cons (FC K))))
end
theorem yV t : aW jI t = false := by
 cases q : aW jI t with
 | false => rfl
 | true =>
  have h := q;simp only [aW, Qar] at h;obtain ⟨k, rfl, a⟩ := kT h.1;have : k = 0 ∨ k = 1 ∨ k = 2 ∨ k = 3 ∨ k = 4 ∨ k = 5 ∨ k = 6 ∨ k = 7 ∨ k = 8 ∨ k = 9 ∨ k = 10 ∨ k = 11 := by omega
  rcases this with rfl | rfl | rfl | rfl | rfl | rfl | rfl | rfl | rfl | rfl | rfl | rfl <;> exact absurd q (by decide)
theorem GMem.none {i : Nat} {fr po} (b : cC fr) (c : PoOk po) (d : po.length = fr.length) (g : ∀ f, f < po.length → dp po f ≠ ((i : Int), true)) (h : ∀ f, f < po.length → dp po f = ((i : Int), false) → fr.getD f [] = cR) : GMem i ⟨fr, jI, po⟩ :=
  ⟨b, c, yq, d, ⟨fun t a => absurd a (by rw [yV]; decide), fun s t j => absurd j (by rw [yV]; decide)⟩, fun t _ a => absurd a (by rw [yV]; decide), fun f k e => absurd e (g f k), fun t _ a => absurd a (by rw [yV]; decide), h⟩
theorem a4N {who i words x} : (kG who words x i).po.length = x.po.length ∧ (∀ f, (dp (kG who words x i).po f).1 = (dp x.po f).1) := by
 unfold kG
 cases e : cm x.po who with
 | nil => exact ⟨rfl, fun _ => rfl⟩
 | cons f l =>
  have a := kX.1 (show f ∈ cm x.po who by rw [e]; simp);refine ⟨Qam .., fun k => ?_⟩;dsimp only;rw [jV a.1];split;grind;rfl
theorem yW {who words x} : ∀ n, (dq who words n x).po.length = x.po.length ∧ (∀ f, (dp (dq who words n x).po f).1 = (dp x.po f).1)
 | 0 => ⟨rfl, fun _ => rfl⟩
 | n + 1 => by
  obtain ⟨a, b⟩ := yW (who := who) (words := words) (x := x) n;obtain ⟨c, d⟩ := a4N (who := who) (i := n) (words := words) (x := dq who words n x);exact ⟨c.trans a, fun f => (d f).trans (b f)⟩
theorem BK {who words x} : ∀ n, n ≤ 8 → ∀ t : Nat, 8 ≤ t → aW (dq who words n x).pg t = aW x.pg t
 | 0, _, _, _ => rfl
 | n + 1, b, t, a => by
  rw [dq, kG]
  cases e : cm (dq who words n x).po who with
  | nil => exact BK n (by omega) t a
  | cons f l =>
   dsimp only;unfold eA;split;rw [Qaf, (hZ (by omega)).1];exact BK n (by omega) t a;exact BK n (by omega) t a
theorem GMem.ring {i k fr pg po f r} (h : GMem i ⟨fr, pg, po⟩) (hk : k < 4) (d : aW pg (8 + k : Nat) = false) (w : f < fr.length) (x : 1 ≤ r ∧ r ≤ 3) (y : (dp po f).1 ≠ i) (s : ∀ t, aW pg t = true → (bJ pg t).1 ≠ f) :
    GMem i ⟨fr, eA pg (8 + k : Nat) (f, r), po⟩ ∧ (∀ t, aW (eA pg (8 + k : Nat) (f, r)) t = (aW pg t || decide (t = (8 + k : Nat)))) ∧ (∀ t, t ≠ ((8 + k : Nat) : Int) → bJ (eA pg (8 + k : Nat) (f, r)) t = bJ pg t) ∧ bJ (eA pg (8 + k : Nat) (f, r)) (8 + k : Nat) = ((f : Int), r) := by
 have l : f < 32 := by have := h.po.len; have := h.len; dsimp only at *; omega
 have z : gm pg ((8 + k : Nat) : Int) ((f : Int), r) = 0 := by
  rw [gm, Qad ⟨Qah (by omega), Qah (by omega)⟩, d]; rfl
 have m : eA pg ((8 + k : Nat) : Int) ((f : Int), r) = pg.set (8 + k) ((f : Int), r) := by grind [eA]
 have b : (((f : Int), r) : Pl) ≠ (0, 0) := fun e => by have := (Qdb e).2; omega
 have u := Bt (p := ((f : Int), r)) h.pg.len (show 8 + k < 12 by omega) b;have a : ∀ t, aW (pg.set (8 + k) ((f : Int), r)) t = (aW pg t || decide (t = ((8 + k : Nat) : Int))) := fun t => by
  by_cases e : t = ((8 + k : Nat) : Int);grind;grind [hZ]
 rw [m];refine ⟨⟨h.fr, h.po, ?_, h.len, h.pl.set h.pg.len (by omega) b (by grind) s, fun t c q => ?_, fun g j q => ?_, fun t c q => ?_, h.nul⟩, a, fun t e => (hZ e).2, u.2⟩;have := vN (n := ((8 + k : Nat) : Int)) (p := ((f : Int), r)) h.pg
 rwa [m] at this
 have e : (t : Int) ≠ ((8 + k : Nat) : Int) := by omega
 dsimp only at q ⊢;rw [a, Qal e, QcK] at q;rw [(hZ e).2];exact h.own t c q;obtain ⟨t, c, o, v⟩ := h.all g j q;have e : (t : Int) ≠ ((8 + k : Nat) : Int) := by omega
 exact ⟨t, c, by dsimp only; rw [a]; dsimp only at o; rw [o]; rfl, by dsimp only; rw [(hZ e).2]; exact v⟩;dsimp only at q ⊢;by_cases e : (t : Int) = ((8 + k : Nat) : Int);grind;rw [a, Qal e, QcK] at q;rw [(hZ e).2];exact h.far t c q
theorem GMem.rings {c i fr pg po} (n : rt c = true) (h : GMem i ⟨fr, pg, po⟩) (a : ∀ t : Nat, 8 ≤ t → aW pg t = false) (b : Nat) (u : eC c c.gl.length = b) (g : ∀ k, k < c.nl.length → (dp po (b + k)).1 ≠ i) (v : b + c.nl.length ≤ fr.length) :
    ∀ k, k ≤ c.nl.length → GMem i ⟨fr, fH c i k pg, po⟩ ∧ (∀ t : Nat, 8 ≤ t → aW (fH c i k pg) t = true → t < 8 + k ∧ (bJ (fH c i k pg) t).1 = (b + (t - 8) : Nat)) ∧ (∀ t : Nat, t < 8 → aW (fH c i k pg) t = aW pg t ∧ bJ (fH c i k pg) t = bJ pg t)
 | 0, _ => ⟨h, fun t d q => absurd (show aW pg t = true from q) (by grind), fun t _ => ⟨rfl, rfl⟩⟩
 | k + 1, A => by
  obtain ⟨o, w, B⟩ := h.rings n a b u g v k (by omega);have x := (lx n).nn;rw [fH];split;grind
  rename_i C
  have j : md c (k : Int) = ((b + k : Nat) : Int) := by grind [md]
  have l : 1 ≤ mf (nf c k) i ∧ mf (nf c k) i ≤ 3 := by
   grind [mf]
  have m : aW (fH c i k pg) ((8 + k : Nat) : Int) = false := by
   cases q : aW (fH c i k pg) ((8 + k : Nat) : Int) with
   | false => rfl
   | true => have := (w (8 + k) (by omega) q).1; omega
  rw [j];obtain ⟨y, z, D, E⟩ := o.ring (k := k) (f := b + k) (r := mf (nf c k) i) (by omega) m (by omega) l (g k (by omega)) fun t q e => by
   have p := q;simp only [aW, Qar] at p;obtain ⟨s, rfl, F⟩ := kT p.1;rcases QaD s 8 with d | d;have := o.own s d q;dsimp only at this;rw [e, Qaf] at this;exact g k (by omega) (by rw [this]);grind
  refine ⟨y, fun t d q => ?_, fun t d => ?_⟩;rw [z] at q;by_cases e : (t : Int) = ((8 + k : Nat) : Int);grind;grind;grind
def ka (c : Cfg) (i : Nat) (ws : List Nat) (fr : List aE) (po : Po) : Mm := ⟨(laid c i ws fr po).fr, fH c i c.nl.length (laid c i ws fr po).pg, (laid c i ws fr po).po⟩
theorem a4O {c i ws fr po} (a : cC fr) (b : PoOk po) (d : po.length = fr.length) (e : i < 16) : (laid c i ws fr po).fr.length = fr.length := by
 have g := (uE (who := i) (words := bz ws (dh c i).2.1.toNat) (x := ⟨fr, po, jI⟩) e (n := (dh c i).2.1.toNat) ⟨a, b, yq, d⟩).len;have f := (yW (who := i) (words := bz ws (dh c i).2.1.toNat) (x := ⟨fr, po, jI⟩) (dh c i).2.1.toNat).1;have h : (dq i (bz ws (dh c i).2.1.toNat) (dh c i).2.1.toNat ⟨fr, po, jI⟩).po.length = po.length := f;unfold laid;omega
theorem GMem.made {c i ws fr po} (g : rt c = true) (o : i < c.gl.length) (h : cC fr) (j : PoOk po) (l : po.length = fr.length) (m : (dh c i).2.1 ≤ ((cm po i).length)) (p : ∀ f, f < po.length → dp po f ≠ ((i : Int), true)) (q : ∀ f, f < po.length → dp po f = ((i : Int), false) → fr.getD f [] = cR)
    (r : ∀ b k : Nat, eC c c.gl.length = b → k < c.nl.length → (dp po (b + k)).1 ≠ i) (C : fr.length = cM c) : GMem i (ka c i ws fr po) := by
 have a := lx g;have s := a.g4;have u := a.gs i o;have v := GMem.none h j l p q;have d := GMem.lay (words := bz ws (dh c i).2.1.toNat) (x := ⟨fr, po, jI⟩) v (show i < 16 by omega) EE (dh c i).2.1.toNat (by omega) (by grind);have w := te a.gs c.gl.length (Qao _);obtain ⟨b, n⟩ : ∃ b : Nat, eC c c.gl.length = (b : Int) := ⟨(eC c c.gl.length).toNat, by omega⟩
 have y := a4O (ws := ws) (c := c) h j l (show i < 16 by omega);have z := uJ c c.gl.length;have e : b + c.nl.length ≤ (laid c i ws fr po).fr.length := by grind [cM]
 exact (d.rings g (fun t A => by
  show aW (dq i (bz ws (dh c i).2.1.toNat) (dh c i).2.1.toNat ⟨fr, po, jI⟩).pg t = false
  rw [BK _ (by omega) t A]; exact yV _) b n (fun k B => by
  show (dp (dq i (bz ws (dh c i).2.1.toNat) (dh c i).2.1.toNat ⟨fr, po, jI⟩).po (b + k)).1 ≠ _
  rw [(yW _).2]; exact r b k n B) e c.nl.length (Qao _)).1
abbrev g0 : Gu := ⟨⟨List.replicate 16 0, 0, oE⟩, dJ, dJ, dJ, BI, 0, Fz, false, [0, 0, 0, 0], 0, [], 0⟩
abbrev gA (gb : Nat) (z : Gz) (g : Gu) (x : Mm) (R : List HP) : List HP := pt gb (dC z g) :: pt z.x.r (dR g.c.rl g.c.pc) :: pt z.x.c (en g.c.cs z.i) :: gx z.tr g.es :: nP z.x.v (g.ls, g.ln) :: nQ z.x.t g.tm :: iB z.x.m ⟨z.pv, z.ps, z.pm, g.bud, x.fr, x.pg⟩ :: pt z.q0 (qO true g.qa) :: pt z.q1 (qO true g.qb) :: pt z.q2 (qO true g.qc) :: R
theorem a4P W0 R c (h : CfK W0 c) (r : rt c = true) i (s : i < c.gl.length) ps pb fr po (t : cC fr) (u : PoOk po) (w : po.length = fr.length) (C : 0 < fr.length) (g : (dh c i).2.1 ≤ ((cm po i).length))
    a cap ws (D : ∀ A, cF (aT W0 A) a 1 j6 ws) (E : ∀ y ∈ ws, y < 4294967296) (F : ws.length < 9223372036854775808) (q : GMem i (ka c i ws fr po)) :
    bH Tryz.prog W0 24 [.agg (dI c).toArray, .int .i64 i, pV ps, pV pb, .slice a ws.length cap] (cW pb (ps, po) :: bB ps fr :: R)
      (fun v B => ∃ e z b, v = .tuple #[pV e, .int .i64 0] ∧ z.c = c ∧ z.i = i ∧ z.ps = ps ∧ z.pb = pb ∧ z.wv = .slice (some ⟨b, 0, none⟩) (bz ws 8).length (bz ws 8).length ∧ B = gA e z g0 (ka c i ws fr po) (pt z.bx mZ :: pt b (ag ((bz ws 8).map wV) 46) :: cW pb (ps, (ka c i ws fr po).po) :: bB ps (ka c i ws fr po).fr :: R)) := by
 refine iH (a0H c h r i s ps pb fr po t u w C g a cap ws D E F) fun v B G => ?_;obtain ⟨e, x, H, I, j, k, l, b, f, n, o, p, rfl, rfl⟩ := G;refine ⟨_, ⟨e, ⟨x, j, k, l, f, ps, n, pb, o, p, .slice (some ⟨b, 0, none⟩) (bz ws 8).length (bz ws 8).length, i, c⟩, b, rfl, rfl, rfl, rfl, rfl, rfl, rfl⟩, ?_⟩;have J := FA q.fr q.pg q.pl;refine Ent.trans (B := pt e (ag (B5 x j k l c i (.slice (some ⟨b, 0, none⟩) (bz ws 8).length (bz ws 8).length) pb f o p) 144) :: tu x i H I f (kH 6 (cu [pt j (qO true dJ), pt k (qO true dJ), pt l (qO true dJ)]) :: pt f (cB ps n 0) :: pt n (bN (fH c i c.nl.length (laid c i ws fr po).pg)) :: pt o mZ :: gx p [] :: pt b (ag ((bz ws 8).map wV) 46) :: cW pb (ps, (laid c i ws fr po).po) :: bB ps (laid c i ws fr po).fr :: R)) inferInstance ?_;refine (Ent.cons (FC J)).trans ?_;obtain ⟨m, d⟩ : ∃ m, ka c i ws fr po = m := ⟨_, rfl⟩
 have K : (laid c i ws fr po).fr = m.fr := by rw [← d]; rfl
 have L : fH c i c.nl.length (laid c i ws fr po).pg = m.pg := by rw [← d]; rfl
 have M : (laid c i ws fr po).po = m.po := by rw [← d]; rfl
 rw [d, K]
 try rw [L]
 try rw [M]
 exact Ent.trans (B := pt e (dC ⟨x, j, k, l, f, ps, n, pb, o, p, .slice (some ⟨b, 0, none⟩) (bz ws 8).length (bz ws 8).length, i, c⟩ g0) :: FB x j k l i f ps n m.fr m.pg (pt o mZ :: gx p [] :: pt b (ag ((bz ws 8).map wV) 46) :: cW pb (ps, m.po) :: bB ps m.fr :: R)) ent_refl inferInstance
@[reducible] def py (p s b1 b2 b3 : Nat) : Cfg := ⟨1, some ⟨b1, 0, none⟩, 2, [(0, (p : Int), (s : Int)), (1, 2, 0)], none, 0, [], none, 0, [], some ⟨b2, 0, none⟩, 1, [(0, 1)], some ⟨b3, 0, none⟩, 1, [(0, 1)], -1, 0⟩
abbrev Ml (p s b1 b2 b3 : Nat) (R : List HP) : List HP := pt b1 (ag ([(0, (p : Int), (s : Int)), (1, 2, 0)].flatMap ix) 146) :: pt b2 (ag ([((0 : Int), (1 : Int))].flatMap iL) 148) :: pt b3 (ag ([((0 : Int), (1 : Int))].flatMap iL) 150) :: R
def lV (pages : Nat) : Nat := 2 + pages % 6
def se (pages spare : Nat) : Nat := spare % (8 - lV pages + 1)
theorem Mn n : 2 ≤ lV n ∧ lV n ≤ 7 := by unfold lV; omega
theorem a4Q n m : se n m ≤ 8 - lV n := by
 have := Qcb m (show 0 < 8 - lV n + 1 by omega);unfold se; omega
theorem Mo : ∀ p, p < 8 → 2 ≤ p → ∀ s, s < 8 → s ≤ 8 - p → ∀ c d e, rt (py p s c d e) = true := by
 intro p f g s h i c d e;have a : p = 2 ∨ p = 3 ∨ p = 4 ∨ p = 5 ∨ p = 6 ∨ p = 7 := by omega
 have b : s = 0 ∨ s = 1 ∨ s = 2 ∨ s = 3 ∨ s = 4 ∨ s = 5 ∨ s = 6 := by omega
 rcases a with rfl | rfl | rfl | rfl | rfl | rfl <;> rcases b with rfl | rfl | rfl | rfl | rfl | rfl | rfl <;> first | (exfalso; omega) | (show rt _ = true; kernel_rfl)
theorem Mp (pages spare : Nat) (hp : pages < 256) (hs : spare < 256) : sP W0 10 [.int .u8 pages, .int .u8 spare] R (fun v B => ∃ b1 b2 b3, v = .agg (dI (py (lV pages) (se pages spare) b1 b2 b3)).toArray ∧ B = Ml (lV pages) (se pages spare) b1 b2 b3 R) := by
 have a := Mn pages;refine am func10 ntmps10 ?_;refine bi fun b1 => ?_;refine aa (dV rfl rfl (by decide) (io pages 6)) ?_;refine aa (bD (bS (by omega))) ?_;refine aa (cY rfl rfl (by rw [bS (by omega)]; unfold lV; omega : IntKind.wrap .i64 (2 + ((pages % 6 : Nat) : Int)) = ((lV pages : Nat) : Int))) ?_;refine aa (bD (bS (by omega))) ?_;refine aa gW ?_;refine aa (ee (8 - lV pages + 1)) ?_;refine aa (dV rfl rfl (by omega) (io spare (8 - lV pages + 1))) ?_;refine dK (j0 mu kQ a7R rfl (fR rfl rfl (fR rfl rfl iG)) rfl (by decide) (by decide) (by decide)) fun b1 => ?_;refine dK (j0 zn zh a7S rfl (fR rfl rfl iG) rfl (by decide) (by decide) (by decide)) fun b2 => ?_;refine dK (j0 Ns Nf a7T rfl (fR rfl rfl iG) rfl (by decide) (by decide) (by decide)) fun b3 => ?_;refine av aB ?_;refine gD (b := b1) (o' := ag ([(0, ((lV pages : Nat) : Int), ((se pages spare : Nat) : Int)), (1, 2, 0)].flatMap ix) 146) rfl ?_;refine gD (b := b2) (o' := ag ([((0 : Int), (1 : Int))].flatMap iL) 148) rfl ?_;refine gD (b := b3) (o' := ag ([((0 : Int), (1 : Int))].flatMap iL) 150) rfl ?_;refine aS (.cons (aX G3 vg rfl rfl) .nil) ?_;exact ⟨_, ⟨b1, b2, b3, rfl, rfl⟩, IO⟩
theorem Mq {W0 W p s b1 b2 b3 R} (a : Own W0 W (Ml p s b1 b2 b3 R)) : CfK W (py p s b1 b2 b3) :=
  ⟨⟨w7 a (sX (b := b1) (fun _ => rfl) rfl), fun _ => De, fun _ => De, w7 a (sX (b := b2) (fun _ => rfl) rfl), w7 a (sX (b := b3) (fun _ => rfl) rfl), Qao _⟩, Qao _⟩
theorem FF {c} (l : rt c = true) {i} (h : i < c.gl.length) ws : GMem i (ka c i ws (List.replicate (cM c) cR) (eH c (cM c))) := by
 have d := lx l;have g : (List.replicate (cM c) cR).length = cM c := by simp
 refine GMem.made l h (cC.new _) (AQ d _) (by rw [pT, g]) ?_ (fun f a e => ?_) (fun f a _ => ?_) (fun b k p r e => ?_) g;have m := Ev d h;have n := (d.gs i h).2.2.1;omega;rw [pT] at a;rw [wc a, Qad a] at e
 cases q : lw c f with
 | some j => rw [q] at e; have := (Qdb e).2; cases this
 | none => rw [q] at e; have := (Qdb e).2; cases this
 grind [pT];have o := uJ c c.gl.length;have a : b + k < cM c := by grind [cM]
 rw [wc a, Qad a] at e
 cases q : lw c ((b + k : Nat) : Int) with
 | some j =>
  have m := (AP d).1 q;have n := Eu d (show j + 1 ≤ c.gl.length by omega) (Qao _);omega
 | none => rw [q] at e; simp [uK] at e
theorem a4R {c} (b : rt c = true) {k} (hk : k < c.nl.length) : (nf c k).1 ≠ (nf c k).2 := by
 obtain ⟨_, _, _, _, _, a, _⟩ := Jw b;simp only [jG, QcS] at a;have := Ju a.2 hk;intro e;simp only [nJ, Bool.not_eq_false', Qar, Qai] at this;exact this.1.2 e
abbrev cI (rl : List Nat) (pc : Nat) : Obj := ag (rl.map wV ++ [wV pc]) 84
abbrev d9 (cs : List Nat) (id : Nat) : Obj := ag (cs.map wV ++ [.int .i64 id]) 105
section
variable {rl : List Nat} {pc : Nat}
theorem nS (h : rl.length = 16) : (rl.map wV ++ [wV pc]).length = 17 := by simp [h]
theorem Mr (h : rl.length = 16) {n} (a : n < 16) : (rl.map wV ++ [wV pc])[n * 1]? = some (wV (bP rl n)) := by
 have : n < rl.length := by omega
 rw [QaA, QaB (by grind)];simp [bP, List.getD, this]
theorem lW (h : rl.length = 16) : (rl.map wV ++ [wV pc])[16]? = some (wV pc) := by
 grind
theorem FG (h : rl.length = 16) {n v} (a : n < 16) : (rl.map wV ++ [wV pc]).set (n * 1) (wV v) = (rl.set n v).map wV ++ [wV pc] := by
 simp_all
theorem pz (h : rl.length = 16) {v} : (rl.map wV ++ [wV pc]).set 16 (wV v) = rl.map wV ++ [wV v] := by
 simp_all
theorem v6 (b n : Nat) (h : rl.length = 16) (c : n < 16) : sQ W0 296 [pV b, iQ n] (pt b (cI rl pc) :: R) (.tuple #[wV (bP rl n), iQ 0]) (pt b (cI rl pc) :: R) := by
 refine am func296 ntmps296 ?_;refine dj rfl rfl rfl (fun a => ?_) fun a => ?_;omega;refine aw ?_;refine aD rfl (fun d => ?_) fun d => ?_;omega;refine aw ?_;refine aa (eL c) ?_;refine aa (aF (aJ (Mr h c))) ?_;exact aA ap
theorem wI b x i (h : rl.length = 16) : sQ W0 68 [pV b, iQ i, wV x] (pt b (cI rl pc) :: R) (iQ (if hJ i then 0 else 1)) (pt b (cI (if hJ i then je rl i.toNat x else rl) pc) :: R) := by
 obtain ⟨z, c⟩ : ∃ z, hJ i = z := ⟨_, rfl⟩
 rw [c];refine am func68 ntmps68 ?_;refine cv (fun a => ?_) fun a => ?_;refine ae ?_;obtain rfl : z = false := by rw [← c]; exact Qal (by omega)
 rw [Qab QbD, Qab QbD];exact ap;refine ai (fun d => ?_) fun d => ?_;refine ae ?_;obtain rfl : z = false := by rw [← c]; exact Qal (by omega)
 rw [Qab QbD, Qab QbD];exact ap;obtain rfl : z = true := by rw [← c]; exact Qah (by omega)
 obtain ⟨n, rfl⟩ : ∃ n : Nat, i = (n : Int) := ⟨i.toNat, by omega⟩
 rw [Qaf, Qad (show true = true from rfl), Qad (show true = true from rfl)];refine ai (fun e => ?_) fun e => ?_;refine aa (eL (by omega)) ?_;refine av (du (by grind) (FG h (by omega))) ?_;refine ae ?_;rw [je, Qab (by omega)];exact ap;refine ae ?_;rw [je, Qad (by omega)];exact ap
end
section
variable {cs : List Nat} {id : Nat}
theorem v7 (h : CsOk cs) : (cs.map wV ++ [Value.int .i64 id]).length = 8 := by simp [h.len]
theorem tK (h : CsOk cs) {n} (a : n < 7) : (cs.map wV ++ [Value.int .i64 id])[n * 1]? = some (wV (dm cs n)) := by
 have : n < cs.length := by rw [h.len]; exact a
 rw [QaA, QaB (by grind)];simp [dm, List.getD, this]
theorem a4S (h : CsOk cs) : (cs.map wV ++ [Value.int .i64 id])[7]? = some (iQ id) := by
 rw [Qbn (by rw [Qav, h.len]; decide), Qav, h.len]; rfl
theorem v8 (h : cs.length = 7) {n v} (a : n < 7) : (cs.map wV ++ [Value.int .i64 id]).set (n * 1) (wV v) = (cs.set n v).map wV ++ [iQ id] := by
 simp_all
def FH (b : Nat) : Bool := decide (b = 1 ∨ b = 2 ∨ b = 4 ∨ b = 8)
theorem a4T : ∀ y, y < 16 → ∀ b, b < 16 → FH b = true → ((y &&& b = b) ↔ ¬ (y &&& b = 0)) := by decide +kernel
theorem a4U : ∀ b, b < 16 → 15 &&& b = b := by decide +kernel
theorem a4V x {b} (d : FH b = true) : (((x &&& b : Nat)) == (b : Int)) = (x &&& b != 0) := by
 have c : b < 16 := by have := Qas d; omega
 have h : x &&& b = (x % 16) &&& b := by
  rw [← rH (a := x) (n := 4), Nat.and_assoc, show (2 : Nat) ^ 4 - 1 = 15 from rfl, a4U b c]
 have e := a4T (x % 16) (Qcb _ (by decide)) b c d;rw [← h] at e;rw [Qag, Qba, QbL];constructor;omega;omega
theorem tL W0 R b (h : CsOk cs) k (hk : FH k = true) : sQ W0 217 [pV b, wV k] (pt b (d9 cs id) :: R) (.bool (kC cs k)) (pt b (d9 cs id) :: R) := by
 have a : k < 4294967296 := by have := Qas hk; omega
 refine am func217 ntmps217 ?_;refine aa (fN iP aU rfl rfl (i := 5) rfl (by decide) (by first | exact Qac _ | rfl)) ?_;refine aa (aF (aJ (tK h (n := 5) (by decide)))) ?_;refine ac rfl (eT rfl rfl (lj (h.at_ 5) a)) ?_;refine ac rfl (aM rfl) (ac rfl (i5 rfl rfl) (ac rfl (bj rfl) (aP (aH (dv (bK (.inl rfl) (.cons (aN rfl) .nil) ?_))))));exact ⟨_, ⟨Qak Value.bool (a4V _ hk), rfl⟩, IO⟩
theorem Ms b (h : CsOk cs) : sQ W0 218 [pV b] (pt b (d9 cs id) :: R) (.bool (dm cs 1 != 0)) (pt b (d9 cs id) :: R) := by
 refine am func218 ntmps218 ?_;refine aa (fN iP aU rfl rfl (i := 1) rfl (by decide) (by first | exact Qac _ | rfl)) ?_;refine ac rfl (cg lY rfl (aJ (tK h (n := 1) (by decide)))) ?_;refine ac rfl (mB rfl rfl) (ac rfl (bj rfl) (aP (aH (dv (bK (.inl rfl) (.cons (aN rfl) .nil) ?_)))));exact ⟨_, ⟨Qak Value.bool (yB _), rfl⟩, IO⟩
theorem a4W b (h : CsOk cs) : sQ W0 212 [pV b] (pt b (d9 cs id) :: R) (.bool (oo cs)) (pt b (d9 cs id) :: R) := by
 obtain ⟨z, c⟩ : ∃ z, (dm cs 1 != 0) = z := ⟨_, rfl⟩
 refine am func212 ntmps212 ?_;refine ah (ao call218 (Ms b h)) ?_;rw [c];refine ci (fun a => ?_) fun a => ?_;rw [show oo cs = kC cs 1 by rw [oo, c, a, Qbe]];refine ah (ao vp (tL W0 _ b h 1 (by decide))) ?_;exact ae ap;rw [show oo cs = false by rw [oo, c, show z = false by simpa using a, QcR]];exact ae ap
theorem BL p k : sQ W0 289 [.bool p, wV k] R (wV (if p then k else 0)) R := by
 refine am func289 ntmps289 ?_;refine ai (fun a => ?_) fun a => ?_;rw [Qad a];exact ae ap;rw [Qab a];exact ae ap
theorem BM {p : Bool} {s k} : (s ||| (if p then k else 0)) = if p then s ||| k else s := by
 grind
theorem a9G {p : Bool} {k} (hk : k < 4294967296) : (if p then k else 0) < 4294967296 := by split <;> omega
theorem BN b (h : CsOk cs) : sQ W0 153 [pV b] (pt b (d9 cs id) :: R) (.agg (qY cs).toArray) (pt b (d9 cs id) :: R) := by
 have h0 := h.at_ 0;have e1 : dm cs 0 / 256 % 32 = gY cs := by rw [gY, show (31 : Nat) = 2 ^ 5 - 1 from rfl, rH]
 have e2 : ((((dm cs 0 % 2 : Nat) : Int)) == 1) = iu cs := by
  grind [iu]
 have hm : gY cs < 32 := by omega
 refine am func153 ntmps153 ?_;refine bi fun b1 => ?_;refine bc [b] 20 fun hS => ?_;refine aj 0 3 hS ?_;refine az 3 hS (fN iP aU rfl rfl (i := 0) rfl (by decide) (by first | exact Qac _ | rfl)) ?_;refine az 4 hS (aF (cp (k := 0) rfl (tK h (n := 0) (by decide)))) ?_;refine az 5 hS (dV rfl rfl (by decide) (io (dm cs 0) 2)) ?_;refine aj 6 4 hS ?_;refine az 10 hS (fN iP aU rfl rfl (i := 0) rfl (by decide) (by first | exact Qac _ | rfl)) ?_;refine az 11 hS (aF (cp (k := 0) rfl (tK h (n := 0) (by decide)))) ?_;refine az 12 hS (j8 rfl rfl (by decide) (jS (k := .u32) (s := 8) (by decide))) ?_;refine az 13 hS (dV rfl rfl (by decide) (by rw [show (2 : Nat) ^ 8 = 256 from rfl, ← e1]; exact io (dm cs 0 / 256) 32 : Int.tmod ((dm cs 0 / 2 ^ 8 : Nat) : Int) 32 = ((gY cs : Nat) : Int))) ?_;refine az 14 hS (bD (bS (by omega))) ?_;refine aj 15 1 hS ?_;refine bG 16 (ao vp (tL W0 _ b h 4 (by decide))) fun hS => ?_;refine aj 17 2 hS ?_;refine cj 19 aB fun hS => ?_;refine aK ?_;refine aS (.cons (aX C7 wP rfl rfl) .nil) ?_;refine aI ?_;rw [qY, ← e2];rfl
theorem a4X b (h : CsOk cs) (f : id < 4) (n : Nat) (k : n < 9) clock (l : 0 ≤ clock) : sQ W0 302 [pV b, iQ n, iQ clock] (pt b (d9 cs id) :: R) (.tuple #[wV (if e8 cs then oY cs id clock.toNat n else 0), iQ (if e8 cs then 0 else 4)]) (pt b (d9 cs id) :: R) := by
 obtain ⟨q, rfl⟩ : ∃ q : Nat, clock = (q : Int) := ⟨clock.toNat, by omega⟩
 rw [Qaf];obtain ⟨d, a⟩ : ∃ z, e8 cs = z := ⟨_, rfl⟩
 rw [a];refine am func302 ntmps302 ?_;refine ah (ao vp (tL W0 _ b h 4 (by decide))) ?_;rw [show kC cs 4 = d from a];refine ai (fun e => ?_) fun e => ?_;refine aA ?_;rw [show d = false by simpa using e];exact ap;obtain rfl : d = true := by grind
 rw [Qad rfl, Qad rfl];refine dj rfl rfl rfl (fun c => ?_) fun c => ?_;omega;refine aw ?_;refine aD rfl (fun g => ?_) fun g => ?_;omega;refine aw ?_;refine ai (fun i => ?_) fun i => ?_;refine aa (bD (d8 (q : Int))) ?_;refine aA ?_;obtain rfl : n = 7 := by omega
 exact ap;refine ai (fun j => ?_) fun j => ?_;refine aa (aF (aJ (a4S h))) ?_;refine aa (bD (cZ (by omega))) ?_;refine aA ?_;obtain rfl : n = 8 := by omega
 exact ap;refine aa (eL (by omega)) ?_;refine aa (aF (aJ (tK h (n := n) (by omega)))) ?_;refine aA ?_;rw [oY, Qab (by omega), Qab (by omega)];exact ap
theorem a4Y b (h : CsOk cs) (n v : Nat) (i : n < 9) (e : v < 4294967296) (hk : e8 cs = true) : sP W0 303 [pV b, iQ n, wV v] (pt b (d9 cs id) :: R) (fun r B => r = iQ (if n ≤ 6 then 0 else 1) ∧ B = pt b (d9 (if n ≤ 6 then cs.set n (kD n v) else cs) id) :: R) := by
 refine am func303 ntmps303 ?_;refine ku (ao vp (tL W0 _ b h 4 (by decide))) ?_;rw [show kC cs 4 = true from hk];refine au 3 ?_;refine jR ?_;refine dj rfl rfl rfl (fun c => ?_) fun c => ?_;omega;refine aw ?_;refine ai (fun f => ?_) fun f => ?_;refine ae ?_;rw [Qab (by omega), Qab (by omega)];exact ap;rw [Qad (show n ≤ 6 by omega), Qad (show n ≤ 6 by omega)];refine aD rfl (fun g => ?_) fun g => ?_;refine au 2 ?_;refine iS 3 (eT rfl rfl (lj e (by decide))) ?_;refine dw (fun _ : Unit => True) (fun _ => [(0, pV b), (1, iQ n), (7, wV (kD n v))]) (fun _ => pt b (d9 cs id) :: R) ?_ ?_;refine au 6 ?_;refine aD rfl (fun d => ?_) fun d => ?_;omega;refine aw ?_;refine dD () ?_ ?_ ?_;trivial
 · rw [kD, Qad (by omega)]
   repeat (first | exact bC | refine bq rfl ?_)
 exact IO;intro _ _;have a : n < 7 := by omega
 refine aw ?_;refine aa (eL a) ?_;refine av (du (by rw [v7 h]; omega) (v8 h.len a)) ?_;exact ae ap;refine au 2 ?_;refine dw (fun _ : Unit => True) (fun _ => [(0, pV b), (1, iQ n), (7, wV (kD n v))]) (fun _ => pt b (d9 cs id) :: R) ?_ ?_;refine au 6 ?_;refine ai (fun d => ?_) fun d => ?_;refine aa (eT rfl rfl (lj e (by decide))) ?_;refine dD () ?_ ?_ ?_;trivial
 · rw [kD, Qab (by omega), Qad (by omega)]
   repeat (first | exact bC | refine bq rfl ?_)
 exact IO;refine dD () ?_ ?_ ?_;trivial
 · rw [kD, Qab (by omega), Qab (by omega)]
   repeat (first | exact bC | refine bq rfl ?_)
 exact IO;intro _ _;have a : n < 7 := by omega
 refine aw ?_;refine aa (eL a) ?_;refine av (du (by rw [v7 h]; omega) (v8 h.len a)) ?_;exact ae ap
theorem Mt b pc cause tval (h : CsOk cs) (e : pc < 4294967296) (k : cause < 4294967296) (o : tval < 4294967296) : sQ W0 214 [pV b, wV pc, wV cause, wV tval] (pt b (d9 cs id) :: R) (wV (dm cs 1)) (pt b (d9 (m8 cs pc cause tval) id) :: R) := by
 have l := h.trap e k o;have q := h.enter e k o;have r : dm (m8 cs pc cause tval) 1 = dm cs 1 := by grind [m8, oW, dm]
 have p : ((4 ||| (if kC cs 1 then 2 else 0)) ||| (if kC cs 4 then 8 else 0)) = oV cs 4 1 2 4 8 := by rw [BM, BM]; rfl
 obtain ⟨s, f⟩ : ∃ u, (if kC cs 1 then 2 else 0) = u := ⟨_, rfl⟩
 obtain ⟨t, g⟩ : ∃ u, (if kC cs 4 then 8 else 0) = u := ⟨_, rfl⟩
 have j : s < 4294967296 := by grind
 have m : t < 4294967296 := by grind
 rw [f, g] at p;refine am func214 ntmps214 ?_;refine aa (fN iP aU rfl rfl (i := 2) rfl (by decide) (by first | exact Qac _ | rfl)) ?_;refine av (du (by grind [v7]) (v8 (n := 2) h.len (by decide))) ?_;refine aa (fN iP aU rfl rfl (i := 3) rfl (by decide) (by first | exact Qac _ | rfl)) ?_;refine av (du (by rw [v7 (h.set 2 pc e)]; decide) (v8 (n := 3) (h.set 2 pc e).len (by decide))) ?_;refine aa (fN iP aU rfl rfl (i := 4) rfl (by decide) (by first | exact Qac _ | rfl)) ?_;refine av (du (by rw [v7 ((h.set 2 pc e).set 3 cause k)]; decide) (v8 (n := 4) ((h.set 2 pc e).set 3 cause k).len (by decide))) ?_;refine bc [] 13 fun c => ?_;refine aj 0 2 c ?_;refine aj 5 1 c ?_;refine aj 9 2 c ?_;refine bG 2 (ao vp (tL (cs := oW cs pc cause tval) W0 _ b l 1 (by decide))) fun c => ?_;refine bX 3 (aC GT (BL _ 2)) ?_; clear c;rintro _ v ⟨rfl, d⟩;obtain rfl := d.symm;rw [DV, f];refine ⟨aV, fun c => ?_⟩;refine az 4 c (mz rfl rfl (mJ (by decide) j (a := 4))) ?_;refine bG 6 (ao vp (tL (cs := oW cs pc cause tval) W0 _ b l 4 (by decide))) fun c => ?_;refine bX 7 (aC GT (BL _ 8)) ?_; clear c;rintro _ v ⟨rfl, d⟩;obtain rfl := d.symm;rw [DV, g];refine ⟨aV, fun c => ?_⟩;refine az 8 c (mz rfl rfl (by rw [mJ (Qca (n := 32) (by decide) j) m, p])) ?_;refine az 11 c (fN iP aU rfl rfl (i := 5) rfl (by decide) (by first | exact Qac _ | rfl)) ?_;refine cj 12 (du (by grind [v7]) (v8 (n := 5) l.len (by decide))) fun c => ?_;refine aK ?_;refine gD (b := b) (o' := d9 (m8 cs pc cause tval) id) rfl ?_;refine aw ?_;refine aa (fN iP aU rfl rfl (i := 1) rfl (by decide) (by first | exact Qac _ | rfl)) ?_;refine aa (aF (aJ (tK q (n := 1) (by decide)))) ?_;refine ae ?_;rw [r];exact ap
theorem a4Z b (h : CsOk cs) : sQ W0 301 [pV b] (pt b (d9 cs id) :: R) (wV (dm cs 2)) (pt b (d9 (oX cs) id) :: R) := by
 have l := h.leave;have m : dm (oX cs) 2 = dm cs 2 := by grind [oX, dm]
 have j : dm cs 5 &&& 10 < 4294967296 := QaH Qbv (h.at_ 5);have k : (((dm cs 5 &&& 10) ||| (if kC cs 2 then 1 else 0)) ||| (if kC cs 8 then 4 else 0)) = oV cs (dm cs 5 &&& 10) 2 1 8 4 := by rw [BM, BM]; rfl
 obtain ⟨o, d⟩ : ∃ u, (if kC cs 2 then 1 else 0) = u := ⟨_, rfl⟩
 obtain ⟨p, e⟩ : ∃ u, (if kC cs 8 then 4 else 0) = u := ⟨_, rfl⟩
 have f : o < 4294967296 := by grind
 have g : p < 4294967296 := by grind
 rw [d, e] at k;refine am func301 ntmps301 ?_;refine aa (fN iP aU rfl rfl (i := 5) rfl (by decide) (by first | exact Qac _ | rfl)) ?_;refine aa (aF (aJ (tK h (n := 5) (by decide)))) ?_;refine aa (eT rfl rfl (lj (h.at_ 5) (by decide) (b := 10))) ?_;refine bc [] 14 fun a => ?_;refine aj 0 3 a ?_;refine aj 6 1 a ?_;refine aj 10 2 a ?_;refine bG 3 (ao vp (tL W0 _ b h 2 (by decide))) fun a => ?_;refine bX 4 (aC GT (BL _ 1)) ?_; clear a;rintro _ q ⟨rfl, c⟩;obtain rfl := c.symm;rw [d];refine ⟨aV, fun a => ?_⟩;refine az 5 a (mz rfl rfl (mJ j f)) ?_;refine bG 7 (ao vp (tL W0 _ b h 8 (by decide))) fun a => ?_;refine bX 8 (aC GT (BL _ 4)) ?_; clear a;rintro _ q ⟨rfl, c⟩;obtain rfl := c.symm;rw [e];refine ⟨aV, fun a => ?_⟩;refine az 9 a (mz rfl rfl (by rw [mJ (Qca (n := 32) j f) g, k])) ?_;refine az 12 a (fN iP aU rfl rfl (i := 5) rfl (by decide) (by first | exact Qac _ | rfl)) ?_;refine cj 13 (du (by grind [v7]) (v8 (n := 5) h.len (by decide))) fun a => ?_;refine aK ?_;refine gD (b := b) (o' := d9 (oX cs) id) rfl ?_;refine aw ?_;refine aa (fN iP aU rfl rfl (i := 2) rfl (by decide) (by first | exact Qac _ | rfl)) ?_;refine aa (aF (aJ (tK l (n := 2) (by decide)))) ?_;refine ae ?_;rw [m];exact ap
end
def gz (n : Nat) : Value := .int .i64 ((n : Nat) : Int)
def rh : List Value := List.replicate 8 (.bool false)
def rj : List Value := List.replicate 8 (.int .i64 0)
abbrev kc (a : Option Addr) (n c : Nat) : Obj := ag ([.slice a n c] ++ rh ++ rj) 234
def dO (b : Nat) (L : List Nat) : HP := chk (fun C => ∃ a c, C = [pt b (kc a L.length c), osl 3 1 (.slice a L.length c) (L.map gz)])
section
variable {P : Program} {W0 : World} {N : FSz} {K : Act → World → Prop} {e : b0} {A B R R1 R2 : List HP} {b n : Nat} {L : List Nat} {f : FuncId} {args : List Value} {Post : Value → List HP → Prop}
theorem Mv (h : ∀ a c, bH P W0 f args (pt b (kc a L.length c) :: osl 3 1 (.slice a L.length c) (L.map gz) :: R) Post) : bH P W0 f args (dO b L :: R) Post :=
  qq fun C d => by obtain ⟨a, c, rfl⟩ := d; exact h a c
theorem wJ {a c vs} [d : Tk pt b A (kc a n c) R1] [e : Tk (osl 3 1) (.slice a n c) R1 vs R2] (f : vs = L.map gz) (g : n = L.length) [k : Ent R2 B] : Ent A (dO b L :: B) := by
 subst f; subst g;exact (Ent.ofPerm (d.perm.trans (e.perm.cons _))).trans ((Ent.cons (Ent.cons k)).trans (g5 (R := B) (C := [_, _]) ⟨a, c, rfl⟩))
end
theorem a40 n : sQ W0 122 [iQ n] R (.bool (gH n)) R := by
 refine am func122 ntmps122 ?_;refine ci (fun a => ?_) fun a => ?_;rw [show gH n = decide (n < 8) by unfold gH; apply Qaz.2; omega];exact ae ap;rw [show gH n = false by unfold gH; apply Qal; omega];exact ae ap
theorem a9H {L : List Nat} {i n} hi (h : ∀ k, k < i → ((L.getD k 0) : Int) ≠ n) (a : (L[i]) ≠ n) : ∀ k, k < i + 1 → (L.getD k 0) ≠ n := fun k b => by
 rcases QaD k i with q | q;exact h k q;grind
def oH (L : List Nat) (n : Int) : Bool := L.any fun x => ((x : Nat) : Int) == n
theorem a41 {L n} (h : ∀ k, k < L.length → (L.getD k 0) ≠ n) : oH L n = false := by
 grind [oH, Qcw, Qbb.1]
theorem Mw b L (s : L.length < 1000) n : sQ W0 123 [pV b, iQ n] (dO b L :: R) (.bool (oH L n)) (dO b L :: R) := by
 refine Mv fun a c => ?_;refine am func123 ntmps123 ?_;refine d7 (fun i : Nat => i ≤ L.length ∧ ∀ k, k < i → ((L.getD k 0 : Nat) : Int) ≠ n) (fun i => [(0, pV b), (1, iQ n), (5, iQ i)]) (fun _ => pt b (kc a L.length c) :: osl 3 1 (.slice a L.length c) (L.map gz) :: R) (fun i => L.length - i) 0 ?_ ?_;grind;intro i ⟨t, f⟩;refine aw ?_;refine aD rfl (fun p => ?_) fun p => ?_;refine au 5 ?_;have d : i < L.length := by omega
 refine gk (r := osl 3 1) (b := .slice a L.length c) (kt (fun h e => by have := Qak List.length e; rw [Qav, Qbs] at this; omega) fun g u q j h e l w m => ?_);cases h;refine aw ?_;refine aa (bI d) ?_;refine ac rfl (aF (aJ (v := gz L[i]) (by grind))) ?_;refine ac rfl (aM rfl) (ac rfl (i5 rfl rfl) (aP (aH ?_)));refine aD rfl (fun o => ?_) fun o => ?_;refine au 11 ?_;refine ae ?_;rw [show oH L n = true by unfold oH; rw [Qbo]; exact ⟨L[i], QaF d, by simpa [gz] using o⟩];exact ⟨_, ⟨rfl, rfl⟩, Ent.trans (B := pt b (kc (some ⟨g, 0, none⟩) L.length c) :: osl 3 1 (.slice (some ⟨g, 0, none⟩) L.length c) (L.map gz) :: R) (Ent.trans (B := pt g (ag (L.map gz ++ j) 3) :: pt b (kc (some ⟨g, 0, none⟩) L.length c) :: R) inferInstance ((fC (g := g) (E := 3) (sz := 1) (B := pt b (kc (some ⟨g, 0, none⟩) L.length c) :: R) e l (by omega) m).trans inferInstance)) (wJ rfl rfl)⟩;refine aw ?_;refine dr (B := pt b (kc (some ⟨g, 0, none⟩) L.length c) :: osl 3 1 (.slice (some ⟨g, 0, none⟩) L.length c) (L.map gz) :: R) (Ent.trans (B := pt g (ag (L.map gz ++ j) 3) :: pt b (kc (some ⟨g, 0, none⟩) L.length c) :: R) inferInstance ((fC (g := g) (E := 3) (sz := 1) (B := pt b (kc (some ⟨g, 0, none⟩) L.length c) :: R) e l (by omega) m).trans inferInstance)) ?_;refine aw ?_;refine aa co ?_;refine bM (i + 1) ?_;grind;refine aw ?_;refine ae ?_;rw [a41 (fun k x => f k (by omega))];exact ⟨_, ⟨rfl, rfl⟩, wJ rfl rfl⟩
section
variable {P : Program} {W0 : World} {N : FSz} {K : Act → World → Prop} {e : b0} {A B R R1 R2 : List HP} {b n : Nat} {L : List Nat}
theorem Mx [hk : Tk dO b A L R] (h : ∀ a c, ax W0 N K e (pt b (kc a L.length c) :: osl 3 1 (.slice a L.length c) (L.map gz) :: R)) : ax W0 N K e A :=
  gk (r := dO) (b := b) (nu fun C d => by obtain ⟨a, c, rfl⟩ := d; exact h a c)
end
def nT (L : List Nat) (n : Int) : List Nat := if gH n && !oH L n then L ++ [n.toNat] else L
theorem My b L (j : L.length < 1000) n : sQ W0 52 [pV b, iQ n] (dO b L :: R) (iQ (if gH n then 0 else 1)) (dO b (nT L n) :: R) := by
 obtain ⟨w, e⟩ : ∃ w, gH n = w := ⟨_, rfl⟩
 obtain ⟨z, h⟩ : ∃ z, oH L n = z := ⟨_, rfl⟩
 rw [e];refine am func52 ntmps52 ?_;refine ah (aC call122 (a40 n)) ?_;rw [e];refine aD rfl (fun l => ?_) fun l => ?_;refine au 7 ?_;refine ae ?_;obtain rfl : w = false := by grind
 rw [show nT L n = L by rw [nT, e, QcR, Qab QbD]];exact ap;refine au 2 ?_;refine dw (fun _ : Unit => w = true) (fun _ => []) (fun _ => dO b (nT L n) :: R) ?_ ?_;refine au 1 ?_;have d : w = true := by grind
 obtain ⟨k, m⟩ : ∃ k : Nat, n = (k : Int) := ⟨n.toNat, by have := Qas (e.trans d); omega⟩
 refine aw ?_;refine ah (ao call123 (Mw b L j n)) ?_;rw [h];refine ai (fun g => ?_) fun g => ?_;have f : z = false := by grind
 have o : nT L n = L ++ [k] := by grind [nT]
 refine Mx (b := b) fun a c => ?_;refine aw ?_;refine dK (kl fZ aR np rfl rfl rfl rfl rfl (by decide) (by decide)) fun p => ?_;refine aG rfl (eW (sz := 1) (by_ := 8) (info := Tryz.t3) fZ (by kernel_rfl) rfl rfl rfl rfl (by decide) rfl rfl eK rfl rfl (by simp only [maxLen]; omega) (by omega)) ?_;rintro _ _ ⟨i, g, rfl, rfl⟩;refine aw ?_;refine av (iJ (by exact rfl : ([Value.slice a L.length c] ++ rh ++ rj).set 0 (.slice i (L.length + 1) g) = [.slice i (L.length + 1) g] ++ rh ++ rj)) ?_;refine bY () ?_ (he := ?_);exact d;rw [o];exact wJ (n := L.length + 1) (L := L ++ [k]) (by rw [QaG, m]; rfl) (by simp);refine bY () ?_ (he := ?_);exact d;have f : z = true := by grind
 rw [show nT L n = L by rw [nT, e, h, d, f]; rfl];exact IO;intro _ d;refine aw ?_;refine ae ?_;rw [Qad d];exact ap
def oI (L : List Nat) (i : Nat) : Int := if i = 0 then -1 else ((L.getD 0 0 : Nat) : Int)
theorem a42 {a n c x} (b : x < 8) : ([Value.slice a n c] ++ rh ++ rj)[1 + x * 1]? = some (.bool false) := by
 have : x = 0 ∨ x = 1 ∨ x = 2 ∨ x = 3 ∨ x = 4 ∨ x = 5 ∨ x = 6 ∨ x = 7 := by omega
 rcases this with rfl | rfl | rfl | rfl | rfl | rfl | rfl | rfl <;> rfl
theorem Mz {a n c x} (b : x < 8) : ([Value.slice a n c] ++ rh ++ rj)[9 + x * 1]? = some (iQ 0) := by
 have : x = 0 ∨ x = 1 ∨ x = 2 ∨ x = 3 ∨ x = 4 ∨ x = 5 ∨ x = 6 ∨ x = 7 := by omega
 rcases this with rfl | rfl | rfl | rfl | rfl | rfl | rfl | rfl <;> rfl
theorem BO {b g n c} {L : List Nat} {sp R} (f : n = L.length) (a : n ≤ c) (d : c ≤ maxLen) (e : (L.map gz ++ sp).length = c * 1) : Ent (pt b (kc (some ⟨g, 0, none⟩) n c) :: pt g (ag (L.map gz ++ sp) 3) :: R) (pt b (kc (some ⟨g, 0, none⟩) n c) :: osl 3 1 (.slice (some ⟨g, 0, none⟩) n c) (L.map gz) :: R) :=
  Ent.cons (fC (g := g) (E := 3) (sz := 1) (B := R) a d (by grind) e)
theorem a43 b L (F : L.length < 1000) (v : ∀ x ∈ L, x < 8) : sQ W0 287 [pV b] (dO b L :: R) (.tuple #[iQ (L.getD 0 0), .bool (decide (L ≠ []))]) (dO b L :: R) := by
 refine Mv fun a c => ?_;refine am func287 ntmps287 ?_;refine d7 (fun i : Nat => i ≤ L.length) (fun i => [(0, pV b), (4, iQ (oI L i)), (5, iQ i)]) (fun _ => pt b (kc a L.length c) :: osl 3 1 (.slice a L.length c) (L.map gz) :: R) (fun i => L.length - i) 0 ?_ ?_;omega;intro i G;refine aw ?_;refine aD rfl (fun C => ?_) fun C => ?_;refine au 2 ?_;refine dw (fun _ : Unit => i < L.length) (fun _ => [(0, pV b), (4, iQ (oI L (i + 1))), (5, iQ i)]) (fun _ => pt b (kc a L.length c) :: osl 3 1 (.slice a L.length c) (L.map gz) :: R) ?_ ?_;refine au 2 ?_;have d : i < L.length := by omega
 have h : L[i] < 8 := v _ (QaF d);have n : 0 < i → L.getD 0 0 < 8 := fun q => by
  have : 0 < L.length := by omega
  simpa [List.getD, this] using v _ (QaF this)
 refine gk (r := osl 3 1) (b := .slice a L.length c) (kt (fun w p => by have := Qak List.length p; rw [Qav, Qbs] at this; omega) fun g H D s w p y I z => ?_);cases w;have l : (L.map gz ++ s)[i * 1]? = some (gz L[i]) := by grind
 refine bc [b, g] 38 fun e => ?_;refine aj 0 6 e ?_;refine az 6 e (bI d) ?_;refine az 7 e (aF (cp (k := 1) rfl l)) ?_;refine aj 8 2 e ?_;refine az 10 e (eL h) ?_;refine az 11 e (aF (cp (k := 0) rfl (a42 h))) ?_;refine aj 12 2 e ?_;refine ja (t := 28) rfl ?_ ?_;intro f;refine aj 14 3 e ?_;refine ja (t := 31) rfl ?_ ?_;intro m;refine aj 17 21 e ?_;refine aK ?_;refine aa (bI d) ?_;refine aa (aF (aJ l)) ?_;refine dD () ?_ ?_ ?_;exact d
 · have j : i = 0 := by
    grind [Nat.eq_zero_or_pos, oI]
   subst j;rw [show oI L (0 + 1) = ((L[0] : Nat) : Int) by rw [oI, Qab (by omega)]; simp [List.getD, d]]
   repeat (first | exact bC | refine bq rfl ?_)
 exact Ent.trans (B := pt b (kc (some ⟨g, 0, none⟩) L.length c) :: pt g (ag (L.map gz ++ s) 3) :: R) inferInstance (BO rfl p y z);intro m;have j : 0 < i := by
  grind [Nat.eq_zero_or_pos, oI]
 have E : oI L i = ((L.getD 0 0 : Nat) : Int) := by grind [oI]
 rw [E];refine aj 17 6 e ?_;refine az 23 e (bI d) ?_;refine az 24 e (aF (cp (k := 1) rfl l)) ?_;refine aj 25 2 e ?_;refine az 27 e (eL h) ?_;refine az 28 e (aF (cp (k := 0) rfl (Mz h))) ?_;refine aj 29 4 e ?_;refine az 33 e (eL (n j)) ?_;refine az 34 e (aF (cp (k := 0) rfl (Mz (n j)))) ?_;refine aj 35 3 e ?_;refine aK ?_;refine aD rfl (fun u => ?_) fun u => ?_
 first | exact absurd u (by decide) | (simp at u)
 refine aw ?_;refine dD () ?_ ?_ ?_;exact d
 · rw [show oI L (i + 1) = ((L.getD 0 0 : Nat) : Int) by rw [oI, Qab (by omega)]]
   repeat (first | exact bC | refine bq rfl ?_)
 exact Ent.trans (B := pt b (kc (some ⟨g, 0, none⟩) L.length c) :: pt g (ag (L.map gz ++ s) 3) :: R) inferInstance (BO rfl p y z);intro f;exact absurd (by decide) f;intro _ d;refine aw ?_;refine aa co ?_;exact bM (i + 1) (d);refine aw ?_;obtain rfl : i = L.length := by omega
 refine ai (fun A => ?_) fun A => ?_;refine aA ?_;obtain rfl : L = [] := by
  grind [oI]
 exact ⟨_, ⟨rfl, rfl⟩, wJ rfl rfl⟩;have o : L ≠ [] := fun q => by subst q; exact A (by decide)
 rw [show oI L L.length = ((L.getD 0 0 : Nat) : Int) by rw [oI, Qab (fun q => o (QaE q))], Qah o];refine aA ?_;exact ⟨_, ⟨rfl, rfl⟩, wJ rfl rfl⟩
def iC (L : List Nat) (n : Int) : List Nat := L.filter fun x => ((x : Nat) : Int) != n
theorem a44 {L : List Nat} {n i} hi : iC (L.take (i + 1)) n = iC (L.take i) n ++ (if (L[i]) != n then [L[i]] else []) := by
 grind [iC, Qap]
theorem a45 b L (C : L.length < 1000) n : sQ W0 288 [pV b, iQ n] (dO b L :: R) (.bool (oH L n)) (dO b (iC L n) :: R) := by
 obtain ⟨z, t⟩ : ∃ z, oH L n = z := ⟨_, rfl⟩
 have l : ∀ i, (iC (L.take i) n).length ≤ i := fun i => QaN (QaM _ _) (by grind);rw [t];refine am func288 ntmps288 ?_;refine ah (ao call123 (Mw b L C n)) ?_;rw [t];refine Mx (b := b) fun a c => ?_;refine aw ?_;refine gU (fun X : Nat × Option Addr × Nat => X.1 ≤ L.length) (fun X => [(0, pV b), (1, iQ n), (5, .bool z), (6, .slice X.2.1 (iC (L.take X.1) n).length X.2.2), (7, iQ X.1)]) (fun X => osl 3 1 (.slice X.2.1 (iC (L.take X.1) n).length X.2.2) ((iC (L.take X.1) n).map gz) :: pt b (kc a L.length c) :: osl 3 1 (.slice a L.length c) (L.map gz) :: R) (fun X => L.length - X.1) (0, none, 0) ?_ ?_ ?_ ?_;omega
 · repeat (first | exact bC | refine bq rfl ?_)
 grind [fQ];intro ⟨i, h, j⟩ hi;dsimp only at hi ⊢;refine aw ?_;refine aD rfl (fun D => ?_) fun D => ?_;refine au 2 ?_;refine dw (fun X : Option Addr × Nat => i < L.length) (fun X => [(0, pV b), (1, iQ n), (5, .bool z), (6, .slice X.1 (iC (L.take (i + 1)) n).length X.2), (7, iQ i)]) (fun X => osl 3 1 (.slice X.1 (iC (L.take (i + 1)) n).length X.2) ((iC (L.take (i + 1)) n).map gz) :: pt b (kc a L.length c) :: osl 3 1 (.slice a L.length c) (L.map gz) :: R) ?_ ?_;refine au 2 ?_;have d : i < L.length := by omega
 have m := a44 (n := n) d;have E := l i;refine gk (r := osl 3 1) (b := .slice a L.length c) (kt (fun u k => by have := Qak List.length k; rw [Qav, Qbs] at this; omega) fun g I F o u k v J w => ?_);cases u;have f : (L.map gz ++ o)[i * 1]? = some (gz L[i]) := by grind
 refine aw ?_;refine aa (bI d) ?_;refine ac rfl (cg db rfl (aJ f)) ?_;refine ac rfl (aM rfl) (ac rfl (mB rfl rfl) (aP (aH ?_)));refine aD rfl (fun x => ?_) fun x => ?_;have e : iC (L.take (i + 1)) n = iC (L.take i) n ++ [L[i]] := by grind
 have p : (iC (L.take (i + 1)) n).length = (iC (L.take i) n).length + 1 := by grind
 have s : (iC (L.take (i + 1)) n).map gz = (iC (L.take i) n).map gz ++ [gz L[i]] := by grind
 refine aw ?_;refine aa (bI d) ?_;refine aa (aF (aJ f)) ?_;refine dK (kl fZ aR np rfl rfl rfl rfl rfl (by decide) (by decide)) fun K => ?_;refine aG rfl (eW (sz := 1) (by_ := 8) (info := Tryz.t3) fZ (by kernel_rfl) rfl rfl rfl rfl (by decide) rfl rfl eK rfl rfl (by omega) (by omega)) ?_;rintro _ _ ⟨y, A, rfl, rfl⟩;rw [← p, ← s];refine aw ?_;refine bY (y, A) ?_ (he := ?_);exact d;exact Ent.trans (B := osl 3 1 (.slice y (iC (L.take (i + 1)) n).length A) ((iC (L.take (i + 1)) n).map gz) :: pt b (kc (some ⟨g, 0, none⟩) L.length c) :: pt g (ag (L.map gz ++ o) 3) :: R) inferInstance (Ent.cons (BO rfl k v w));have e : iC (L.take (i + 1)) n = iC (L.take i) n := by rw [m, Qab (fun q => x (QbL.1 q)), Qaw]
 refine aw ?_;refine dD (h, j) ?_ ?_ ?_;exact d
 · rw [e]
   repeat (first | exact bC | refine bq rfl ?_)
 rw [e];exact Ent.trans (B := osl 3 1 (.slice h (iC (L.take i) n).length j) ((iC (L.take i) n).map gz) :: pt b (kc (some ⟨g, 0, none⟩) L.length c) :: pt g (ag (L.map gz ++ o) 3) :: R) inferInstance (Ent.cons (BO rfl k v w));intro ⟨G, H⟩ d;refine aw ?_;refine aa co ?_;exact bM (i + 1, G, H) (d);refine aw ?_;obtain rfl : i = L.length := by omega
 rw [QbH];refine av (iJ (by exact rfl : ([Value.slice a L.length c] ++ rh ++ rj).set 0 (.slice h (iC L n).length j) = [.slice h (iC L n).length j] ++ rh ++ rj)) ?_;refine ae ?_;exact ⟨_, ⟨rfl, rfl⟩, wJ (L := iC L n) rfl rfl⟩
def sf (L : List Nat) : List Nat := if L = [] then [] else iC L ((L.getD 0 0 : Nat) : Int)
theorem a46 b L (a : L.length < 1000) (e : ∀ x ∈ L, x < 8) : sQ W0 213 [pV b] (dO b L :: R) (.tuple #[iQ (L.getD 0 0), .bool (decide (L ≠ []))]) (dO b (sf L) :: R) := by
 obtain ⟨z, c⟩ : ∃ z, decide (L ≠ []) = z := ⟨_, rfl⟩
 rw [c];refine am func213 ntmps213 ?_;refine ah (ao call287 (a43 b L a e)) ?_;rw [c];refine ai (fun d => ?_) fun d => ?_;refine ah (ao call288 (a45 b L a ((L.getD 0 0 : Nat) : Int))) ?_;refine aA ?_;rw [sf, Qab (by grind)];exact ap;refine aA ?_
 rw [sf, Qad (by
   rcases L with _ | ⟨x, l⟩
   · rfl
   exact absurd (by grind) d)]
 obtain rfl : L = [] := by
  grind
 exact ap
@[reducible] def fh (x : Int × Int) : List Value := [.int .i64 x.1, .int .i64 x.2]
theorem yX x : (fh x).length = 2 := rfl
abbrev jm (a : Option Addr) (n c : Nat) : Obj := ag [.slice a n c] 265
def dF (b : Nat) (L : List (Int × Int)) : HP := chk (fun C => ∃ a c, C = [pt b (jm a L.length c), osl 267 2 (.slice a L.length c) (L.flatMap fh)])
section
variable {P : Program} {W0 : World} {N : FSz} {K : Act → World → Prop} {e : b0} {A B R R1 R2 : List HP} {b n : Nat} {L : List (Int × Int)} {f : FuncId} {args : List Value} {Post : Value → List HP → Prop}
theorem MA (h : ∀ a c, bH P W0 f args (pt b (jm a L.length c) :: osl 267 2 (.slice a L.length c) (L.flatMap fh) :: R) Post) : bH P W0 f args (dF b L :: R) Post :=
  qq fun C d => by obtain ⟨a, c, rfl⟩ := d; exact h a c
theorem BQ [hk : Tk dF b A L R] (h : ∀ a c, ax W0 N K e (pt b (jm a L.length c) :: osl 267 2 (.slice a L.length c) (L.flatMap fh) :: R)) : ax W0 N K e A :=
  gk (r := dF) (b := b) (nu fun C d => by obtain ⟨a, c, rfl⟩ := d; exact h a c)
theorem rk {a c vs} [d : Tk pt b A (jm a n c) R1] [e : Tk (osl 267 2) (.slice a n c) R1 vs R2] (f : vs = L.flatMap fh) (g : n = L.length) [k : Ent R2 B] : Ent A (dF b L :: B) := by
 subst f; subst g;exact (Ent.ofPerm (d.perm.trans (e.perm.cons _))).trans ((Ent.cons (Ent.cons k)).trans (g5 (R := B) (C := [_, _]) ⟨a, c, rfl⟩))
theorem sg {b g n c sp R} (a : n = L.length) (d : n ≤ c) (e : c ≤ maxLen) (f : (L.flatMap fh ++ sp).length = c * 2) : Ent (pt b (jm (some ⟨g, 0, none⟩) n c) :: pt g (ag (L.flatMap fh ++ sp) 267) :: R) (pt b (jm (some ⟨g, 0, none⟩) n c) :: osl 267 2 (.slice (some ⟨g, 0, none⟩) n c) (L.flatMap fh) :: R) :=
  Ent.cons (fC (g := g) (E := 267) (sz := 2) (B := R) d e (by rw [cQ yX, a]) f)
theorem BR {a c} [hk : Tk (osl 267 2) (.slice a L.length c) A (L.flatMap fh) R] (j : L ≠ [])
    (h : ∀ g d, a = some ⟨g, 0, none⟩ → L.length ≤ c → c ≤ maxLen → (L.flatMap fh ++ d).length = c * 2 → ax W0 N K e (pt g (ag (L.flatMap fh ++ d) 267) :: R)) : ax W0 N K e A :=
  gk (r := osl 267 2) (b := .slice a L.length c) (kt (fun _ f => by
      have := cQ yX L;rw [f] at this;have i : L.length = 0 := by grind
      exact absurd (Qbd.1 i) j) fun g n k d l f i o m => by
    cases l
    exact h g d rfl f i m)
end
theorem yY {L : List (Int × Int)} {sp i} hi : (L.flatMap fh ++ sp)[i * 2]? = some (iQ L[i].1) ∧ (L.flatMap fh ++ sp)[i * 2 + 1]? = some (iQ L[i].2) := by
 exact ⟨(mF yX L i 0 sp hi (by decide)).trans rfl, (mF yX L i 1 sp hi (by decide)).trans rfl⟩
def jn (L : List (Int × Int)) (n : Int) : Bool := L.any fun x => x.1 == n
theorem a47 {L n} (h : ∀ k, k < L.length → (L.getD k (0, 0)).1 ≠ n) : jn L n = false := by
 grind [jn, Qcw, Qbb.1]
theorem MB b L (r : L.length < 1000) n : sQ W0 150 [pV b, iQ n] (dF b L :: R) (.bool (jn L n)) (dF b L :: R) := by
 refine MA fun a c => ?_;refine am func150 ntmps150 ?_;refine d7 (fun i : Nat => i ≤ L.length ∧ ∀ k, k < i → (L.getD k (0, 0)).1 ≠ n) (fun i => [(0, pV b), (1, iQ n), (5, iQ i)]) (fun _ => pt b (jm a L.length c) :: osl 267 2 (.slice a L.length c) (L.flatMap fh) :: R) (fun i => L.length - i) 0 ?_ ?_;grind;intro i ⟨s, e⟩;refine aw ?_;refine ai (fun o => ?_) fun o => ?_;have d : i < L.length := by omega
 refine BR (a := a) (c := c) (L := L) (by grind) fun g f p h j l => ?_;subst p;obtain ⟨q, t⟩ := yY (sp := f) d;refine aw ?_;refine aa (bI d) ?_;refine aa (aF (aJ q)) ?_;refine ai (fun m => ?_) fun m => ?_;refine ae ?_;rw [show jn L n = true by unfold jn; rw [Qbo]; exact ⟨L[i], QaF d, by simpa using m⟩];exact ⟨_, ⟨rfl, rfl⟩, Ent.trans (B := pt b (jm (some ⟨g, 0, none⟩) L.length c) :: osl 267 2 (.slice (some ⟨g, 0, none⟩) L.length c) (L.flatMap fh) :: R) (Ent.trans (B := pt b (jm (some ⟨g, 0, none⟩) L.length c) :: pt g (ag (L.flatMap fh ++ f) 267) :: R) inferInstance (sg rfl h j l)) (rk rfl rfl)⟩;refine dr (B := pt b (jm (some ⟨g, 0, none⟩) L.length c) :: osl 267 2 (.slice (some ⟨g, 0, none⟩) L.length c) (L.flatMap fh) :: R) (Ent.trans (B := pt b (jm (some ⟨g, 0, none⟩) L.length c) :: pt g (ag (L.flatMap fh ++ f) 267) :: R) inferInstance (sg rfl h j l)) ?_;refine aw ?_;refine aa co ?_;refine bM (i + 1) ?_;grind;refine ae ?_;rw [a47 (fun k u => e k (by omega))];exact ⟨_, ⟨rfl, rfl⟩, rk rfl rfl⟩
def kd (L : List (Int × Int)) : Nat → Int
 | 0 => -1
 | i + 1 => if kd L i < 0 ∨ (L.getD i (0, 0)).2 < (L.getD (kd L i).toNat (0, 0)).2 then (i : Int) else kd L i
theorem FI L : ∀ i, (i = 0 ∧ kd L i = -1) ∨ ∃ r, r < i ∧ kd L i = r ∧ ∀ k, k < i → (L.getD r (0, 0)).2 ≤ (L.getD k (0, 0)).2
 | 0 => .inl ⟨rfl, rfl⟩
 | i + 1 => by
  right;rw [kd];rcases FI L i with ⟨b, a⟩ | ⟨r, c, a, d⟩;simp_all;rw [a, Qaf];split;grind;grind
theorem a48 b L (A : L.length < 1000) : sQ W0 285 [pV b] (dF b L :: R) (iQ (kd L L.length)) (dF b L :: R) := by
 refine MA fun a c => ?_;refine am func285 ntmps285 ?_;refine d7 (fun i : Nat => i ≤ L.length) (fun i => [(0, pV b), (3, iQ (kd L i)), (4, iQ i)]) (fun _ => pt b (jm a L.length c) :: osl 267 2 (.slice a L.length c) (L.flatMap fh) :: R) (fun i => L.length - i) 0 ?_ ?_;omega;intro i C;refine aw ?_;refine aD rfl (fun s => ?_) fun s => ?_;refine au 2 ?_;refine dw (fun _ : Unit => i < L.length) (fun _ => [(0, pV b), (3, iQ (kd L (i + 1))), (4, iQ i)]) (fun _ => pt b (jm a L.length c) :: osl 267 2 (.slice a L.length c) (L.flatMap fh) :: R) ?_ ?_;refine au 2 ?_;have d : i < L.length := by omega
 have u := FI L i;refine BR (a := a) (c := c) (L := L) (by grind) fun g h v l m n => ?_;subst v;obtain ⟨D, w⟩ := yY (sp := h) d;have E : (L.getD i (0, 0)).2 = L[i].2 := by grind
 refine bc [b, g] 21 fun e => ?_;refine aj 0 3 e ?_;refine ja (t := 16) rfl ?_ ?_;intro f;refine aj 3 18 e ?_;refine aK ?_;refine dD () ?_ ?_ ?_;exact d
 · rw [show kd L (i + 1) = (i : Int) by rw [kd, Qad (.inl f)]]
   repeat (first | exact bC | refine bq rfl ?_)
 exact Ent.trans (B := pt b (jm (some ⟨g, 0, none⟩) L.length c) :: pt g (ag (L.flatMap fh ++ h) 267) :: R) inferInstance (sg rfl l m n);intro f;obtain ⟨r, F, o, x⟩ : ∃ r : Nat, r < i ∧ kd L i = (r : Int) ∧ ∀ k, k < i → (L.getD r (0, 0)).2 ≤ (L.getD k (0, 0)).2 := by
  grind
 have j : r < L.length := by omega
 obtain ⟨G, y⟩ := yY (sp := h) j;have H : (L.getD (kd L i).toNat (0, 0)).2 = L[r].2 := by grind
 refine aj 3 5 e ?_;refine az 8 e (bI d) ?_;refine aj 9 1 e ?_;refine az 10 e (aF (cp (k := 1) rfl w)) ?_;refine aj 11 5 e ?_;refine az 16 e (iF vj zi rfl rfl o j (by first | exact Qac _ | rfl)) ?_;refine aj 17 1 e ?_;refine az 18 e (aF (cp (k := 1) rfl y)) ?_;refine aj 19 2 e ?_;refine aK ?_;refine ai (fun z => ?_) fun z => ?_;refine dD () ?_ ?_ ?_;exact d
 · rw [show kd L (i + 1) = (i : Int) by rw [kd, Qad (.inr (by omega))]]
   repeat (first | exact bC | refine bq rfl ?_)
 exact Ent.trans (B := pt b (jm (some ⟨g, 0, none⟩) L.length c) :: pt g (ag (L.flatMap fh ++ h) 267) :: R) inferInstance (sg rfl l m n);refine dD () ?_ ?_ ?_;exact d
 · have p : ¬ (kd L i < 0 ∨ (L.getD i (0, 0)).2 < (L.getD (kd L i).toNat (0, 0)).2) := fun q => by
    rcases q with q | q;exact f q;omega
   rw [show kd L (i + 1) = kd L i by rw [kd, Qab p]]
   repeat (first | exact bC | refine bq rfl ?_)
 exact Ent.trans (B := pt b (jm (some ⟨g, 0, none⟩) L.length c) :: pt g (ag (L.flatMap fh ++ h) 267) :: R) inferInstance (sg rfl l m n);intro _ d;refine aw ?_;refine aa co ?_;exact bM (i + 1) (d);refine aw ?_;refine ae ?_;obtain rfl : i = L.length := by omega
 exact ⟨_, ⟨rfl, rfl⟩, rk rfl rfl⟩
def ie (L : List (Int × Int)) (n : Int) : List (Int × Int) := L.filter fun x => x.1 != n
theorem a49 {L : List (Int × Int)} {n i} hi : ie (L.take (i + 1)) n = ie (L.take i) n ++ (if L[i].1 != n then [L[i]] else []) := by
 grind [ie, Qap]
theorem a5a b L (x : L.length < 1000) n : sQ W0 286 [pV b, iQ n] (dF b L :: R) (.bool (jn L n)) (dF b (ie L n) :: R) := by
 obtain ⟨z, m⟩ : ∃ z, jn L n = z := ⟨_, rfl⟩
 have h : ∀ i, (ie (L.take i) n).length ≤ i := fun i => QaN (QaM _ _) (by grind);rw [m];refine am func286 ntmps286 ?_;refine ah (ao call150 (MB b L x n)) ?_;rw [m];refine BQ (b := b) fun a c => ?_;refine aw ?_;refine gU (fun X : Nat × Option Addr × Nat => X.1 ≤ L.length) (fun X => [(0, pV b), (1, iQ n), (5, .bool z), (6, .slice X.2.1 (ie (L.take X.1) n).length X.2.2), (7, iQ X.1)]) (fun X => osl 267 2 (.slice X.2.1 (ie (L.take X.1) n).length X.2.2) ((ie (L.take X.1) n).flatMap fh) :: pt b (jm a L.length c) :: osl 267 2 (.slice a L.length c) (L.flatMap fh) :: R) (fun X => L.length - X.1) (0, none, 0) ?_ ?_ ?_ ?_;omega
 · repeat (first | exact bC | refine bq rfl ?_)
 exact Ent.trans (B := pt b (jm a L.length c) :: osl 267 2 (.slice a L.length c) (L.flatMap fh) :: R) inferInstance (fQ (E := 267) (sz := 2));intro ⟨i, o, p⟩ hi;dsimp only at hi ⊢;refine aw ?_;refine aD rfl (fun y => ?_) fun y => ?_;refine au 2 ?_;refine dw (fun X : Option Addr × Nat => i < L.length) (fun X => [(0, pV b), (1, iQ n), (5, .bool z), (6, .slice X.1 (ie (L.take (i + 1)) n).length X.2), (7, iQ i)]) (fun X => osl 267 2 (.slice X.1 (ie (L.take (i + 1)) n).length X.2) ((ie (L.take (i + 1)) n).flatMap fh) :: pt b (jm a L.length c) :: osl 267 2 (.slice a L.length c) (L.flatMap fh) :: R) ?_ ?_;refine au 2 ?_;have d : i < L.length := by omega
 have j := a49 (n := n) d;have A := h i;refine BR (a := a) (c := c) (L := L) (by grind) fun g f C r s t => ?_;subst C;obtain ⟨D, H⟩ := yY (sp := f) d;refine aw ?_;refine aa (bI d) ?_;refine aa (aF (aJ D)) ?_;refine ai (fun u => ?_) fun u => ?_;have e : ie (L.take (i + 1)) n = ie (L.take i) n ++ [L[i]] := by grind
 have k : (ie (L.take (i + 1)) n).length = (ie (L.take i) n).length + 1 := by grind
 have l : (ie (L.take (i + 1)) n).flatMap fh = (ie (L.take i) n).flatMap fh ++ [fh L[i]].flatten := by grind
 refine aa (bI d) ?_;refine aa (dt (cJ (b := g) (vs := fh L[i]) (n := 2) (rC yX L i f d) rfl)) ?_;refine dK (j0 vj zi NA rfl (fR rfl rfl iG) rfl (by decide) (by decide) (by decide)) fun I => ?_;refine aG rfl (eW (sz := 2) (by_ := 16) (info := Tryz.t267) vj (by kernel_rfl) rfl rfl rfl rfl (by decide) rfl rfl eK rfl rfl (by omega) (by omega)) ?_;rintro _ _ ⟨v, w, rfl, rfl⟩;rw [← k, ← l];refine aw ?_;refine bY (v, w) ?_ (he := ?_);exact d;exact Ent.trans (B := osl 267 2 (.slice v (ie (L.take (i + 1)) n).length w) ((ie (L.take (i + 1)) n).flatMap fh) :: pt b (jm (some ⟨g, 0, none⟩) L.length c) :: pt g (ag (L.flatMap fh ++ f) 267) :: R) inferInstance (Ent.cons (sg rfl r s t));have e : ie (L.take (i + 1)) n = ie (L.take i) n := by rw [j, Qab (fun q => u (QbL.1 q)), Qaw]
 refine dD (o, p) ?_ ?_ ?_;exact d
 · rw [e]
   repeat (first | exact bC | refine bq rfl ?_)
 rw [e];exact Ent.trans (B := osl 267 2 (.slice o (ie (L.take i) n).length p) ((ie (L.take i) n).flatMap fh) :: pt b (jm (some ⟨g, 0, none⟩) L.length c) :: pt g (ag (L.flatMap fh ++ f) 267) :: R) inferInstance (Ent.cons (sg rfl r s t));intro ⟨F, G⟩ d;refine aw ?_;refine aa co ?_;exact bM (i + 1, F, G) (d);refine aw ?_;obtain rfl : i = L.length := by omega
 rw [QbH];refine av eg ?_;refine ae ?_;exact ⟨_, ⟨rfl, rfl⟩, rk (L := ie L n) rfl rfl⟩
def BS (L : List (Int × Int)) : Nat → Nat → Nat
 | 0, k => k
 | n + 1, k => if jn L k then BS L n (k + 1) else k
theorem BU {L n} (h : jn L n = true) : ∃ x ∈ L, x.1 = n := by
 grind [jn]
theorem FJ {L} (j : L.length < 4) (h : ∀ k : Nat, k < 4 → jn L k = true) : False := by
 obtain ⟨a, e, l⟩ := BU (h 0 (by decide));obtain ⟨b, f, m⟩ := BU (h 1 (by decide));obtain ⟨c, g, n⟩ := BU (h 2 (by decide));obtain ⟨d, i, o⟩ := BU (h 3 (by decide))
 match L, j with
 | [], _ => cases e
 | [x], _ =>
  simp only [Qbh] at e f;subst e; subst f; omega
 | [x, y], _ =>
  simp only [QaQ, Qcj, or_false] at e f g;rcases e with rfl | rfl <;> rcases f with rfl | rfl <;> rcases g with rfl | rfl <;> omega
 | [x, y, z], _ =>
  simp only [QaQ, Qcj, or_false] at e f g i;rcases e with rfl | rfl | rfl <;> rcases f with rfl | rfl | rfl <;> rcases g with rfl | rfl | rfl <;> rcases i with rfl | rfl | rfl <;> omega
theorem FK {L} {i : Nat} (c : jn L i = false) : ∀ n k, k ≤ i → i < k + n → (∀ j, k ≤ j → j < i → jn L j = true) → BS L n k = i
 | 0, k, d, f, _ => by omega
 | n + 1, k, d, f, e => by
  rw [BS];rcases Nat.eq_or_lt_of_le d with q | q;grind;rw [e k (Qao _) q, Qad rfl];exact FK c n (k + 1) q (by omega) fun j a b => e j (by omega) b
def BV (L : List (Int × Int)) : Nat := BS L 4 0
def v9 (L : List (Int × Int)) (d : Int) : Int := if d < 0 then 1 else if 4 ≤ L.length then 2 else 0
def vd (L : List (Int × Int)) (d : Int) : Nat := if d < 0 then 0 else if 4 ≤ L.length then 0 else BV L
def ve (L : List (Int × Int)) (d : Int) : List (Int × Int) := if d < 0 then L else if 4 ≤ L.length then L else L ++ [(((BV L : Nat) : Int), d)]
theorem a5b b L (m : L.length < 1000) d : sQ W0 71 [pV b, iQ d] (dF b L :: R) (.tuple #[iQ (vd L d), iQ (v9 L d)]) (dF b (ve L d) :: R) := by
 refine am func71 ntmps71 ?_;refine ai (fun f => ?_) fun f => ?_;refine aA ?_;rw [vd, v9, ve, Qad f, Qad f, Qad f];exact ap;refine BQ (b := b) fun a c => ?_;refine aw ?_;refine ai (fun l => ?_) fun l => ?_;refine aA ?_;have g : 4 ≤ L.length := by omega
 rw [vd, v9, ve, Qab f, Qab f, Qab f, Qad g, Qad g, Qad g];exact ⟨_, ⟨rfl, rfl⟩, rk rfl rfl⟩;have h : L.length < 4 := by omega
 refine gU (fun i : Nat => i ≤ 4 ∧ ∀ k : Nat, k < i → jn L k = true) (fun i => [(0, pV b), (1, iQ d), (6, iQ i)]) (fun _ => dF b L :: R) (fun i => 5 - i) 0 ?_ ?_ ?_ ?_;grind
 · repeat (first | exact bC | refine bq rfl ?_)
 exact rk rfl rfl;intro i ⟨w, e⟩;refine aw ?_;refine ah (ao call150 (MB b L m i)) ?_;refine ai (fun o => ?_) fun o => ?_;refine aa co ?_;refine bM (i + 1) ?_;grind [FJ];have p : i ≠ 4 := fun q => by subst q; exact FJ h e
 have r : jn L i = false := by grind
 have s : BV L = i := FK r 4 0 (QaK _) (by omega) fun j _ q => e j q;have t : ve L d = L ++ [(((i : Nat) : Int), d)] := by grind [ve]
 have u : vd L d = i := by grind [vd]
 have v : v9 L d = 0 := by grind [v9]
 rw [t, u, v];refine BQ (b := b) fun a c => ?_;refine aw ?_;refine dK (j0 vj zi NA rfl (fR rfl rfl iG) rfl (by decide) (by decide) (by decide)) fun x => ?_;refine aG rfl (eW (sz := 2) (by_ := 16) (info := Tryz.t267) vj (by kernel_rfl) rfl rfl rfl rfl (by decide) rfl rfl eK rfl rfl (by simp only [maxLen]; omega) (by omega)) ?_;rintro _ _ ⟨y, l, rfl, rfl⟩;refine aw ?_;refine av eg ?_;refine aA ?_;exact ⟨_, ⟨rfl, rfl⟩, rk (n := L.length + 1) (L := L ++ [(((i : Nat) : Int), d)]) (by grind) (by simp)⟩
theorem a5c {l1 l2 x} (h : ((l1 ++ x :: l2).map (·.1)).Nodup) : ie (l1 ++ x :: l2) x.1 = l1 ++ l2 := by
 rw [QaG, QaL] at h;have h := Qbp.1 h;have b : l1.filter (fun y => y.1 != x.1) = l1 := QaV.2 fun y a => QbL.2 (h.2.2 _ (QbO a) _ (Qbj ..));have c : l2.filter (fun y => y.1 != x.1) = l2 := QaV.2 fun y a => QbL.2 fun e => (Qbw.1 h.2.1).1 (e ▸ QbO a);unfold ie;rw [QbC, List.filter_cons, b, c];simp
def BW (now : Int) (x : Int × Int) : Bool := decide (x.2 ≤ now)
def pY (L : List (Int × Int)) (now : Int) : List (Int × Int) := L.filter fun x => !BW now x
def ni (L : List (Int × Int)) (now : Int) : Nat := (L.filter (BW now)).length
structure Fi (L M : List (Int × Int)) (now : Int) (k m : Nat) : Prop where
  nd : (M.map (·.1)).Nodup
  len : M.length ≤ 4
  left : pY M now = pY L now
  n : ni M now + m = ni L now
  all : m = k ∨ ni M now = 0
theorem Fi.go {L M now k m r} (h : Fi L M now k m) (u : r < M.length) (j : M[r].2 ≤ now) (hk : k < 4) : Fi L (ie M M[r].1) now (k + 1) (m + 1) := by
 have o : M = M.take r ++ M[r] :: M.drop (r + 1) := by
  simp_all
 obtain ⟨x, p⟩ : ∃ x, M[r] = x := ⟨_, rfl⟩
 obtain ⟨e, g⟩ : ∃ l, M.take r = l := ⟨_, rfl⟩
 obtain ⟨f, i⟩ : ∃ l, M.drop (r + 1) = l := ⟨_, rfl⟩
 rw [p] at j ⊢;rw [p, g, i] at o;have b := h.nd;have c := h.len;have a := h.left;have q := h.n;have d := h.all;rw [o] at b c a q d ⊢;rw [a5c b];have s : BW now x = true := Qah j;have t : pY (e ++ x :: f) now = pY (e ++ f) now := by
  grind [pY]
 have v : ni (e ++ x :: f) now = ni (e ++ f) now + 1 := by
  grind [ni]
 refine ⟨?_, ?_, by rw [← t]; exact a, by omega, ?_⟩;grind;grind;omega
theorem Fi.no {L M now k m} (h : Fi L M now k m) (a : ∀ x ∈ M, ¬ x.2 ≤ now) : Fi L M now (k + 1) m :=
  ⟨h.nd, h.len, h.left, h.n, .inr (by
    unfold ni
    rw [show M.filter (BW now) = [] from QcI.2 fun x b q => a x b (Qas q)]; rfl)⟩
theorem Fi.done {L M now m} (h : Fi L M now 4 m) (b : L.length ≤ 4) : M = pY L now ∧ m = ni L now := by
 have d := h.n;have e : ni L now ≤ 4 := QaN (QaM _ _) b;have a : ni M now = 0 := by rcases h.all with q | q <;> omega
 refine ⟨?_, by omega⟩;rw [← h.left];unfold pY;refine (QaV.2 fun x c => ?_).symm;unfold ni at a;have := QcI.1 (Qbd.1 a) x c;simpa using this
theorem a5d b L (hl : L.length ≤ 4) (hnd : (L.map (·.1)).Nodup) now : sP W0 211 [pV b, iQ now] (dF b L :: R) (fun v B => ∃ a c, v = .slice a (ni L now) c ∧ B = dF b (pY L now) :: R) := by
 refine am func211 ntmps211 ?_;refine gU (fun X : Nat × List (Int × Int) × List Value × Option Addr × Nat => X.1 ≤ 4 ∧ Fi L X.2.1 now X.1 X.2.2.1.length ∧ X.2.2.1.length ≤ X.1) (fun X => [(0, pV b), (1, iQ now), (5, .slice X.2.2.2.1 X.2.2.1.length X.2.2.2.2), (6, iQ X.1)]) (fun X => osl 3 1 (.slice X.2.2.2.1 X.2.2.1.length X.2.2.2.2) X.2.2.1 :: dF b X.2.1 :: R) (fun X => 4 - X.1) (0, L, [], none, 0) ?_ ?_ ?_ ?_;exact ⟨QaK _, ⟨hnd, hl, rfl, rfl, .inl rfl⟩, Qao _⟩
 · repeat (first | exact bC | refine bq rfl ?_)
 grind [Ent.trans, dF, fQ];intro ⟨k, M, O, oa, oc⟩ ⟨hk, hF, hO⟩;dsimp only at hk hF hO ⊢;refine aw ?_;refine aD rfl (fun c3 => ?_) fun c3 => ?_;refine au 2 ?_;refine dw (fun X : List (Int × Int) × List Value × Option Addr × Nat => k < 4 ∧ Fi L X.1 now (k + 1) X.2.1.length ∧ X.2.1.length ≤ k + 1) (fun X => [(0, pV b), (1, iQ now), (5, .slice X.2.2.1 X.2.1.length X.2.2.2), (6, iQ k)]) (fun X => osl 3 1 (.slice X.2.2.1 X.2.1.length X.2.2.2) X.2.1 :: dF b X.1 :: R) ?_ ?_;refine au 4 ?_;refine ah (ao call285 (a48 b M (by have := hF.len; omega))) ?_;have hk4 : k < 4 := by omega
 have hml := hF.len;have hok := FI M M.length;refine BQ (b := b) fun a2 c2 => ?_;refine aw ?_;refine ci (fun g6_3 => ?_) fun g6_3 => ?_;obtain ⟨r, hr, hrb, hrm⟩ : ∃ r : Nat, r < M.length ∧ kd M M.length = (r : Int) ∧ ∀ j, j < M.length → (M.getD r (0, 0)).2 ≤ (M.getD j (0, 0)).2 := by
  grind
 refine BR (a := a2) (c := c2) (L := M) (by grind) fun g sp ha h2 h3 h5 => ?_;subst ha;obtain ⟨k1, k2⟩ := yY (sp := sp) hr;refine aw ?_;refine aa (iF vj zi rfl rfl hrb hr (by first | exact Qac _ | rfl)) ?_;refine aa (aF (aJ k2)) ?_;refine ai (fun c6 => ?_) fun c6 => ?_;refine aa (iF vj zi rfl rfl hrb hr (by first | exact Qac _ | rfl)) ?_;refine aa (aF (aJ k1)) ?_;refine dK (kl fZ aR np rfl rfl rfl rfl rfl (by decide) (by decide)) fun b1 => ?_;refine aG rfl (eW (sz := 1) (by_ := 8) (info := Tryz.t3) fZ (by kernel_rfl) rfl rfl rfl rfl (by decide) rfl rfl eK rfl rfl (by simp only [maxLen]; omega) (by omega)) ?_;rintro _ _ ⟨a3, c3, rfl, rfl⟩;refine aw ?_;refine dr (B := dF b M :: osl 3 1 (.slice a3 (O.length + 1) c3) (O ++ [iQ M[r].1]) :: R) (Ent.trans (B := pt b (jm (some ⟨g, 0, none⟩) M.length c2) :: pt g (ag (M.flatMap fh ++ sp) 267) :: osl 3 1 (.slice a3 (O.length + 1) c3) (O ++ [iQ M[r].1]) :: R) inferInstance ((sg rfl h2 h3 h5).trans (rk rfl rfl))) ?_;refine aw ?_;refine ah (ao call286 (a5a b M (by omega) M[r].1)) ?_;refine dD (ie M M[r].1, O ++ [iQ M[r].1], a3, c3) ?_ ?_ ?_;exact ⟨hk4, by rw [Qae]; exact hF.go hr c6 hk4, by rw [Qae]; simp; omega⟩
 · rw [Qae]
   repeat (first | exact bC | refine bq rfl ?_)
 show Ent _ (osl 3 1 (.slice a3 (O ++ [Value.int .i64 M[r].1]).length c3) (O ++ [iQ M[r].1]) :: dF b (ie M M[r].1) :: R);rw [Qae];exact IO;refine bY (M, O, oa, oc) ?_ (he := ?_)
 exact ⟨hk4, hF.no (fun x hx q => by
  obtain ⟨j, hj, rfl⟩ := Qbb.1 hx;have h9 := hrm j hj;simp only [List.getD, QaR hj, QaR hr, Option.getD_some] at h9
  exact c6 (by omega)), by dsimp only; omega⟩
 exact Ent.trans (B := osl 3 1 (.slice oa O.length oc) O :: pt b (jm (some ⟨g, 0, none⟩) M.length c2) :: pt g (ag (M.flatMap fh ++ sp) 267) :: R) inferInstance (Ent.cons ((sg rfl h2 h3 h5).trans (rk rfl rfl)));refine bY (M, O, oa, oc) ?_ (he := ?_)
 exact ⟨hk4, hF.no (fun x hx q => by
  rcases hok with ⟨h0, _⟩ | ⟨r, _, h1, _⟩;grind
  exact g6_3 (by omega)), by dsimp only; omega⟩
 exact Ent.trans (B := osl 3 1 (.slice oa O.length oc) O :: pt b (jm a2 M.length c2) :: osl 267 2 (.slice a2 M.length c2) (M.flatMap fh) :: R) inferInstance (Ent.cons (rk rfl rfl));intro ⟨M2, O2, a4, c4⟩ ⟨hk4, hF2, hO2⟩;refine aw ?_;refine aa co ?_;refine bM (k + 1, M2, O2, a4, c4) ?_;grind;refine aw ?_;obtain rfl : k = 4 := by omega
 obtain ⟨hM, hm⟩ := hF.done hl;subst hM;rw [hm];refine ae ?_;exact ⟨_, ⟨oa, oc, rfl, rfl⟩, IO⟩
theorem a5e {a b : Nat} (c : a < 4294967296) (d : b < 4294967296) : decide (u32 (a + 2147483648) < u32 (b + 2147483648)) = decide (iU a < iU b) := by
 apply Qaz.2;have e : ∀ x : Nat, x < 4294967296 → iU x = if x < 2147483648 then (x : Int) else (x : Int) - 4294967296 := fun x f => by
  simp only [iU, IntKind.wrap, IntKind.bits, IntKind.signed];simp;omega
 rw [e a c, e b d];unfold u32;split <;> split <;> omega
theorem FL {a n : Nat} (h : ¬ (2147483648 ≤ a ∧ 0 < n)) (b : a < 4294967296) (f : n < 32) : u32 (jP .i32 (iU a) n) = a / 2 ^ n := by
 have e : iU a = if a < 2147483648 then (a : Int) else (a : Int) - 4294967296 := by
  simp only [iU, IntKind.wrap, IntKind.bits, IntKind.signed];simp;omega
 by_cases c : n = 0;subst c;rw [Nat.pow_zero, Nat.div_one];have : jP .i32 (iU a) ((0 : Nat) : Int) = iU a := by
  unfold jP;simp
 rw [this, e];unfold u32;split <;> omega;have d : a < 2147483648 := by omega
 rw [e, Qad d, jS (k := .i32) (s := n) (by show n ≤ 32; omega), vT];exact QaH (QbP _ _) b
theorem a5f {a n : Nat} (h : 2147483648 ≤ a) (f : 0 < n) (i : a < 4294967296) (j : n < 32) : u32 (jP .i32 (iU a) n) = (a / 2 ^ n) ||| (4294967296 - 2 ^ (32 - n)) := by
 have e : iU a = (a : Int) - 4294967296 := by
  simp only [iU, IntKind.wrap, IntKind.bits, IntKind.signed];simp;omega
 have k : ∀ n, n < 32 → 0 < n → ∃ q, 2 ^ n * 2 ^ (32 - n) = 4294967296 ∧ 0 < 2 ^ n ∧ 0 < 2 ^ (32 - n) ∧ q = 2 ^ n := fun n h f => ⟨2 ^ n, by rw [← Nat.pow_add, show n + (32 - n) = 32 by omega], Qcr _, Qcr _, rfl⟩
 obtain ⟨_, b, c, l, _⟩ := k n j f;have m : a / 2 ^ n < 2 ^ (32 - n) := by
  rw [Nat.div_lt_iff_lt_mul c, QcE, b]; exact i
 have g : 4294967296 - 2 ^ (32 - n) = 2 ^ (32 - n) * (2 ^ n - 1) := by
  rw [Nat.mul_sub, QaA, QcE, b]
 have d : (a / 2 ^ n) ||| (4294967296 - 2 ^ (32 - n)) = 2 ^ (32 - n) * (2 ^ n - 1) + a / 2 ^ n := by
  rw [g, QcX, Qbk m]
 rw [d, ← g, e];have o : jP .i32 ((a : Int) - 4294967296) (n : Int) = ((a / 2 ^ n : Nat) : Int) - ((2 ^ (32 - n) : Nat) : Int) := by
  unfold jP;rw [Qaf, Qbm (show n ≤ IntKind.bits .i32 by show n ≤ 32; omega)];rw [show ((2 : Int) ^ n) = ((2 ^ n : Nat) : Int) by push_cast; rfl, Int.fdiv_eq_ediv_of_nonneg _ (Int.natCast_nonneg _)]
  rw [show (a : Int) - 4294967296 = (a : Int) + ((2 ^ n : Nat) : Int) * (-((2 ^ (32 - n) : Nat) : Int)) by
   rw [Int.mul_neg, ← Int.natCast_mul, b]; rfl]
  rw [Int.add_mul_ediv_left _ _ (by omega)];rw [← Int.natCast_ediv]; rfl
 rw [o];have p : 2 ^ (32 - n) ≤ 2147483648 := by
  have : 2 ^ (32 - n) ≤ 2 ^ 31 := Qcu (by decide) (by omega);exact this
 unfold u32;omega
theorem a5g {n} (a : 0 < n) (b : n < 32) : iE .u32 4294967295 (32 - n : Nat) = (4294967296 - 2 ^ (32 - n) : Nat) := by
 have : ∀ m, m < 32 → 0 < m → iE .u32 4294967295 ((32 - m : Nat) : Int) = ((4294967296 - 2 ^ (32 - m) : Nat) : Int) := by decide +kernel
 exact this n b a
theorem a5h : ∀ a, a < 42 → 1 ≤ a → a ≤ 13 → gn a = 7 := by decide +kernel
theorem MC : ∀ a, a < 42 → ((14 ≤ a ∧ a ≤ 21) ∨ (23 ≤ a ∧ a ≤ 25) ∨ a = 33) → gn a = 11 := by decide +kernel
theorem MD : ∀ a, a < 42 → (a = 22 ∨ a = 32 ∨ a = 37) → gn a = 9 := by decide +kernel
theorem a5i : ∀ a, a < 42 → (a = 26 ∨ a = 27 ∨ (28 ≤ a ∧ a ≤ 31)) → gn a = 14 := by decide +kernel
theorem ME : ∀ a, a < 42 → a = 38 → gn a = 10 := by decide +kernel
theorem a5j : ∀ a, a < 42 → (a = 0 ∨ a = 34 ∨ a = 35 ∨ a = 36 ∨ a = 39 ∨ a = 40 ∨ a = 41) → gn a = 0 := by decide +kernel
theorem a5k {i} (h : gX i = true) : mN i = u32 ((i.op + i.d * 64 + i.a * 1024 + i.b * 16384 : Nat) + (u32 (iE .u32 (u32 i.im) 18))) := by
 obtain ⟨v, m, n, o, w⟩ := rQ h;have p : ∀ x : Nat, x < 4294967296 → iE .u32 ((x : Nat) : Int) 18 = ((x % 16384 * 262144 : Nat) : Int) := fun x e => by
  unfold iE;rw [show min (18 : Int).toNat (IntKind.bits .u32) = 18 by decide, d8];unfold u32;omega
 have c : ∀ (x k : Nat), x < 16 → k ≤ 14 → iE .u32 ((x : Nat) : Int) ((k : Nat) : Int) = ((x * 2 ^ k : Nat) : Int) := by
  have : ∀ x, x < 16 → ∀ k, k ≤ 14 → iE .u32 ((x : Nat) : Int) ((k : Nat) : Int) = ((x * 2 ^ k : Nat) : Int) := by decide +kernel
  exact fun x k a b => this x a k b
 have f := c i.d 6 m (by decide);have g := c i.a 10 n (by decide);have j := c i.b 14 o (by decide);unfold mN;have e := dU i.im;rw [p _ e];rw [show ((6 : Nat) : Int) = 6 from rfl] at f;rw [show ((10 : Nat) : Int) = 10 from rfl] at g;rw [show ((14 : Nat) : Int) = 14 from rfl] at j;rw [f, g, j];have q : i.op < 2 ^ 6 := by omega
 rw [mJ (a := i.op) (b := i.d * 2 ^ 6) (by omega) (by omega)];rw [show i.op ||| i.d * 2 ^ 6 = 2 ^ 6 * i.d + i.op by rw [QcX, QcE, Qbk q]];have r : 2 ^ 6 * i.d + i.op < 2 ^ 10 := by omega
 rw [mJ (b := i.a * 2 ^ 10) (by omega) (by omega)];rw [show (2 ^ 6 * i.d + i.op) ||| i.a * 2 ^ 10 = 2 ^ 10 * i.a + (2 ^ 6 * i.d + i.op) by rw [QcX, QcE i.a, Qbk r]];have s : 2 ^ 10 * i.a + (2 ^ 6 * i.d + i.op) < 2 ^ 14 := by omega
 rw [mJ (b := i.b * 2 ^ 14) (by omega) (by omega)];rw [show (2 ^ 10 * i.a + (2 ^ 6 * i.d + i.op)) ||| i.b * 2 ^ 14 = 2 ^ 14 * i.b + (2 ^ 10 * i.a + (2 ^ 6 * i.d + i.op)) by rw [QcX, QcE i.b, Qbk s]];obtain ⟨y, l⟩ : ∃ y, u32 i.im % 16384 = y := ⟨_, rfl⟩
 have t : y < 16384 := by rw [← l]; exact Qcb _ (by decide)
 rw [l];have u : 2 ^ 14 * i.b + (2 ^ 10 * i.a + (2 ^ 6 * i.d + i.op)) < 2 ^ 18 := by omega
 rw [show y * 262144 = y * 2 ^ 18 from rfl, mJ (b := y * 2 ^ 18) (by omega) (by omega)];rw [show (2 ^ 14 * i.b + (2 ^ 10 * i.a + (2 ^ 6 * i.d + i.op))) ||| y * 2 ^ 18 = 2 ^ 18 * y + (2 ^ 14 * i.b + (2 ^ 10 * i.a + (2 ^ 6 * i.d + i.op))) by rw [QcX, QcE y, Qbk u]];rw [vT (by omega), vT (by omega)];unfold u32;omega
section
variable (W0 : World) (R : List HP) (a b : Nat)
theorem a5l im : sQ W0 297 [iQ im] R (wV (uC im)) R := by
 refine am func297 ntmps297 ?_;refine aa (bD (d8 im)) ?_;refine aa (lg rfl rfl (by decide) (yF _ _)) ?_;exact ae ap
theorem a5m (a : Nat) (h : a < 42) : sQ W0 298 [iQ a] R (.tuple #[iQ (if 14 ≤ a ∧ a ≤ 21 then ir a else 0 : Nat), .bool (decide (14 ≤ a ∧ a ≤ 21))]) R := by
 refine am func298 ntmps298 ?_;refine ai (fun f => ?_) fun f => ?_;refine aA ?_;obtain rfl : a = 14 := by omega
 exact ap;refine ai (fun g => ?_) fun g => ?_;refine aA ?_;obtain rfl : a = 15 := by omega
 exact ap;refine ai (fun i => ?_) fun i => ?_;refine aA ?_;obtain rfl : a = 16 := by omega
 exact ap;refine ai (fun j => ?_) fun j => ?_;refine aA ?_;obtain rfl : a = 17 := by omega
 exact ap;refine ai (fun b => ?_) fun b => ?_;refine aA ?_;obtain rfl : a = 18 := by omega
 exact ap;refine ai (fun c => ?_) fun c => ?_;refine aA ?_;obtain rfl : a = 19 := by omega
 exact ap;refine ai (fun d => ?_) fun d => ?_;refine aA ?_;obtain rfl : a = 20 := by omega
 exact ap;refine ai (fun e => ?_) fun e => ?_;refine aA ?_;obtain rfl : a = 21 := by omega
 exact ap;refine aA ?_;rw [Qab (by omega), Qal (by omega)];exact ap
theorem MF p : sQ W0 339 [.bool p] R (wV (oU p)) R := by
 refine am func339 ntmps339 ?_;refine ai (fun a => ?_) fun a => ?_;rw [show oU p = 1 by rw [a]; rfl];exact ae ap;rw [show oU p = 0 by rw [show p = false by simpa using a]; rfl];exact ae ap
theorem MG (c : a < 4294967296) (d : b < 4294967296) : sQ W0 340 [wV a, wV b] R (.bool (decide (iU a < iU b))) R := by
 rw [← a5e c d, ← yG];refine am func340 ntmps340 ?_;refine aa (cY rfl rfl (d8 _)) ?_;refine aa (cY rfl rfl (d8 _)) ?_;exact ae ap
theorem a5n n (hn : n < 32) (ha : a < 4294967296) : sQ W0 338 [wV a, wV n] R (wV (u32 (jP .i32 (iU a) n))) R := by
 have hd : a / 2 ^ n < 4294967296 := QaH (QbP _ _) ha;refine am func338 ntmps338 ?_;refine ac rfl (j8 rfl rfl (by omega) (jS (k := .u32) (s := n) (by show n ≤ 32; omega))) ?_;refine ac rfl (bj rfl) (aP (aH (aQ (aQ (aY (ac rfl (aM rfl) (ac rfl (sG rfl rfl) (ac rfl (aM rfl) ?_))))))));refine i6 rfl rfl rfl (fun g2_3 => ?_) fun g2_3 => ?_;refine ac rfl (aM rfl) ?_;refine cz rfl rfl (ac rfl (tZ rfl rfl) (ac rfl (jO rfl rfl) (aP (aH ?_))));refine aD rfl (fun c2 => ?_) fun c2 => ?_;have h1 : 2147483648 ≤ a := by omega
 have h2 : 0 < n := by omega
 rw [a5f h1 h2 ha hn];have hf := a5g h2 hn;refine aw ?_;refine aa (o8 (32 - n)) ?_;refine aa (lg rfl rfl (by omega) hf) ?_;refine aa (mz rfl rfl (mJ hd (Nat.sub_lt (by decide) (Qcr _)))) ?_;refine ae ?_
 first | exact ⟨_, ⟨rfl, rfl⟩, inferInstance⟩ | (rw [FL (by omega) ha hn]; exact ⟨_, ⟨rfl, rfl⟩, inferInstance⟩)
 refine aw ?_;refine ae ?_
 first | exact ⟨_, ⟨rfl, rfl⟩, inferInstance⟩ | (rw [FL (by omega) ha hn]; exact ⟨_, ⟨rfl, rfl⟩, inferInstance⟩)
 refine aw ?_;refine ae ?_
 first | exact ⟨_, ⟨rfl, rfl⟩, inferInstance⟩ | (rw [FL (by omega) ha hn]; exact ⟨_, ⟨rfl, rfl⟩, inferInstance⟩)
theorem MH (c : Nat) (h : c < 42) (e : a < 4294967296) (f : b < 4294967296) : sQ W0 299 [iQ c, wV a, wV b] R (.tuple #[wV (if 1 ≤ c ∧ c ≤ 13 then kB c a b else 0), iQ (if 1 ≤ c ∧ c ≤ 13 then 0 else 1)]) R := by
 refine am func299 ntmps299 ?_;refine ai (fun v => ?_) fun v => ?_;refine aa (cY rfl rfl (d8 _)) ?_;refine aA ?_;obtain rfl : c = 1 := by omega
 exact ap;refine ai (fun w => ?_) fun w => ?_;refine aa (jo rfl rfl (d8 _)) ?_;refine aA ?_;obtain rfl : c = 2 := by omega
 exact ap;refine ai (fun x => ?_) fun x => ?_;refine aa (eT rfl rfl (lj e f)) ?_;refine aA ?_;obtain rfl : c = 3 := by omega
 exact ap;refine ai (fun y => ?_) fun y => ?_;refine aa (mz rfl rfl (mJ e f)) ?_;refine aA ?_;obtain rfl : c = 4 := by omega
 exact ap;refine ai (fun g => ?_) fun g => ?_;refine aa (H5 rfl rfl (Lh a b)) ?_;refine aA ?_;obtain rfl : c = 5 := by omega
 exact ap;refine ai (fun i => ?_) fun i => ?_;refine aa (dV rfl rfl (by decide) (io b 32)) ?_;refine aa (lg rfl rfl (by omega) (yF _ _)) ?_;refine aA ?_;obtain rfl : c = 6 := by omega
 exact ap;refine ai (fun j => ?_) fun j => ?_;refine aa (dV rfl rfl (by decide) (io b 32)) ?_;refine aa (j8 rfl rfl (by omega) (jS (k := .u32) (s := b % 32) (by have := Qcb b (show 0 < 32 by decide); show b % 32 ≤ 32; omega))) ?_;refine aA ?_;obtain rfl : c = 7 := by omega
 exact ap;refine ai (fun l => ?_) fun l => ?_;refine aa (dV rfl rfl (by decide) (io b 32)) ?_;refine ah (aC call338 (a5n W0 _ a (b % 32) (Qcb _ (by decide)) e)) ?_;refine aA ?_;obtain rfl : c = 8 := by omega
 exact ap;refine ai (fun m => ?_) fun m => ?_;refine ah (aC call340 (MG W0 _ a b e f)) ?_;refine ah (aC call339 (MF W0 _ _)) ?_;refine aA ?_;obtain rfl : c = 9 := by omega
 exact ap;refine aD rfl (fun n => ?_) fun n => ?_;refine aQ ?_;refine aY (ac rfl (aM rfl) (ac rfl (aM rfl) (ac rfl (nt rfl rfl) (aG rfl (iR call339 rfl (MF W0 _ _)) ?_))));rintro _ A ⟨rfl, o⟩;obtain rfl := o.symm;rw [yG];refine aw ?_;refine aA ?_;obtain rfl : c = 10 := by omega
 exact ap;refine aw ?_;refine ai (fun p => ?_) fun p => ?_;refine aa (qj rfl rfl (d8 _)) ?_;refine aA ?_;obtain rfl : c = 11 := by omega
 exact ap;refine aD rfl (fun q => ?_) fun q => ?_;refine aQ ?_;refine aQ (aY (ac rfl (aM rfl) (ac rfl (i5 rfl rfl) (aP (aH ?_)))));refine aD rfl (fun r => ?_) fun r => ?_;refine au 10 ?_;refine aA ?_;obtain rfl : c = 12 := by omega
 obtain rfl : b = 0 := by omega
 exact ap;refine aw ?_;obtain rfl : c = 12 := by omega
 have d : b ≠ 0 := by omega
 have z : a / b < 4294967296 := QaH (QbP _ _) e;rw [Qad (show 1 ≤ 12 ∧ 12 ≤ 13 by decide), Qad (show 1 ≤ 12 ∧ 12 ≤ 13 by decide), show kB 12 a b = a / b from Qab d];refine aa (lZ rfl rfl (by omega) (by rw [oN]; exact cZ ⟨Int.natCast_nonneg _, Int.ofNat_lt.2 z⟩ : IntKind.wrap .u32 (Int.tdiv (a : Int) (b : Int)) = ((a / b : Nat) : Int))) ?_;exact aA ap;refine aw ?_;refine aD rfl (fun t => ?_) fun t => ?_;refine aQ ?_;refine aQ (aY (ac rfl (aM rfl) (ac rfl (i5 rfl rfl) (aP (aH ?_)))));refine aD rfl (fun u => ?_) fun u => ?_;refine au 11 ?_;refine aA ?_;obtain rfl : c = 13 := by omega
 obtain rfl : b = 0 := by omega
 exact ap;refine aw ?_;obtain rfl : c = 13 := by omega
 have d : b ≠ 0 := by omega
 rw [Qad (show 1 ≤ 13 ∧ 13 ≤ 13 by decide), Qad (show 1 ≤ 13 ∧ 13 ≤ 13 by decide), show kB 13 a b = a % b from Qab d];refine aa (dV rfl rfl (by omega) (io a b)) ?_;exact aA ap;refine aw ?_;refine aA ?_;rw [Qab (by omega), Qab (by omega)];exact ap
theorem a5o (c : Nat) (h : 28 ≤ c ∧ c ≤ 31) (d : a < 4294967296) (e : b < 4294967296) : sQ W0 300 [iQ c, wV a, wV b] R (.tuple #[.bool (uB c a b), iQ 0]) R := by
 refine am func300 ntmps300 ?_;refine aD rfl (fun f => ?_) fun f => ?_;refine aQ ?_;refine aY (ac rfl (aM rfl) (ac rfl (aM rfl) (ac rfl (i5 rfl rfl) (ac rfl (bj rfl) (ac rfl (bj rfl) (aP (aH (dv (my (gQ (bK (.inl rfl) (.cons (aN rfl) (.cons (aN rfl) .nil)) ?_)))))))))));obtain rfl : c = 28 := by omega
 exact ⟨_, ⟨by rw [F7]; rfl, rfl⟩, IO⟩;refine aw ?_;refine aD rfl (fun g => ?_) fun g => ?_;refine aQ ?_;refine aY (ac rfl (aM rfl) (ac rfl (aM rfl) (ac rfl (mB rfl rfl) (ac rfl (bj rfl) (ac rfl (bj rfl) (aP (aH (dv (my (gQ (bK (.inl rfl) (.cons (aN rfl) (.cons (aN rfl) .nil)) ?_)))))))))));obtain rfl : c = 29 := by omega
 exact ⟨_, ⟨by rw [Lq]; rfl, rfl⟩, IO⟩;refine aw ?_;refine ai (fun i => ?_) fun i => ?_;refine ah (aC call340 (MG W0 _ a b d e)) ?_;refine aA ?_;obtain rfl : c = 30 := by omega
 exact ap;refine aD rfl (fun j => ?_) fun j => ?_;refine aQ ?_;refine aY (ac rfl (aM rfl) (ac rfl (aM rfl) (ac rfl (nt rfl rfl) (ac rfl (bj rfl) (ac rfl (bj rfl) (aP (aH (dv (my (gQ (bK (.inl rfl) (.cons (aN rfl) (.cons (aN rfl) .nil)) ?_)))))))))));obtain rfl : c = 31 := by omega
 exact ⟨_, ⟨by rw [yG]; rfl, rfl⟩, IO⟩;omega
end
theorem nU {p} [Decidable p] {a b : Int} (h : p ↔ a = b) : decide p = (a == b) := by
 rw [Qag, Qba, Qaj]; exact h
theorem a5p (a : Nat) (h : a < 42) : sQ W0 293 [iQ a] R (.tuple #[.bool (gn a % 2 != 0), .bool (gn a / 2 % 2 != 0), .bool (gn a / 4 % 2 != 0), .bool (gn a / 8 % 2 != 0)]) R := by
 obtain ⟨m, e⟩ : ∃ z, decide (1 ≤ a ∧ a ≤ 13) = z := ⟨_, rfl⟩
 obtain ⟨f, b⟩ : ∃ z, decide ((14 ≤ a ∧ a ≤ 21) ∨ (23 ≤ a ∧ a ≤ 25) ∨ a = 33) = z := ⟨_, rfl⟩
 obtain ⟨k, d⟩ : ∃ z, decide (a = 22 ∨ a = 32 ∨ a = 37) = z := ⟨_, rfl⟩
 obtain ⟨j, c⟩ : ∃ z, decide (a = 26 ∨ a = 27 ∨ (28 ≤ a ∧ a ≤ 31)) = z := ⟨_, rfl⟩
 refine jq 10 func293 ntmps293 ?_;refine dw (fun _ : Unit => True) (fun _ => [(0, iQ a), (6, .bool m)]) (fun _ => R) ?_ ?_;refine au 4 ?_;refine ci (fun n => ?_) fun n => ?_;refine dD () ?_ ?_ ?_;trivial
 · first | (obtain rfl : m = decide ((a : Int) ≤ 13) := e.symm.trans (Qaz.2 (by omega)); (repeat (first | exact bC | refine bq rfl ?_)); done) | (obtain rfl : m = false := e.symm.trans (Qal (by omega)); (repeat (first | exact bC | refine bq rfl ?_)); done)
 exact IO;refine dD () ?_ ?_ ?_;trivial
 · first | (obtain rfl : m = decide ((a : Int) ≤ 13) := e.symm.trans (Qaz.2 (by omega)); (repeat (first | exact bC | refine bq rfl ?_)); done) | (obtain rfl : m = false := e.symm.trans (Qal (by omega)); (repeat (first | exact bC | refine bq rfl ?_)); done)
 exact IO;intro _ _;refine aD rfl (fun v => ?_) fun v => ?_;refine au 11 ?_;refine aS (.cons (aN rfl) (.cons (aN rfl) (.cons (aN rfl) (.cons (aN rfl) .nil)))) ?_;have q := Qas (e.trans v);rw [a5h a h (by omega) (by omega)];exact ap;refine dw (fun _ : Unit => True) (fun _ => [(0, iQ a), (13, .bool f)]) (fun _ => R) ?_ ?_;have A : ¬ (1 ≤ a ∧ a ≤ 13) := fun q => v (by rw [← e]; exact Qah q);refine aw ?_;refine ci (fun o => ?_) fun o => ?_;refine cv (fun p => ?_) fun p => ?_;refine dD () ?_ ?_ ?_;trivial
 · first | (obtain rfl : f = true := b.symm.trans (Qah (by omega)); (repeat (first | exact bC | refine bq rfl ?_)); done) | (obtain rfl : f = (((a : Nat) : Int) == 33) := b.symm.trans (nU (by omega)); (repeat (first | exact bC | refine bq rfl ?_)); done)
 exact IO;refine ci (fun g => ?_) fun g => ?_;refine cv (fun i => ?_) fun i => ?_;refine dD () ?_ ?_ ?_;trivial
 · first | (obtain rfl : f = true := b.symm.trans (Qah (by omega)); (repeat (first | exact bC | refine bq rfl ?_)); done) | (obtain rfl : f = (((a : Nat) : Int) == 33) := b.symm.trans (nU (by omega)); (repeat (first | exact bC | refine bq rfl ?_)); done)
 exact IO;refine dD () ?_ ?_ ?_;trivial
 · first | (obtain rfl : f = true := b.symm.trans (Qah (by omega)); (repeat (first | exact bC | refine bq rfl ?_)); done) | (obtain rfl : f = (((a : Nat) : Int) == 33) := b.symm.trans (nU (by omega)); (repeat (first | exact bC | refine bq rfl ?_)); done)
 exact IO;refine dD () ?_ ?_ ?_;trivial
 · first | (obtain rfl : f = true := b.symm.trans (Qah (by omega)); (repeat (first | exact bC | refine bq rfl ?_)); done) | (obtain rfl : f = (((a : Nat) : Int) == 33) := b.symm.trans (nU (by omega)); (repeat (first | exact bC | refine bq rfl ?_)); done)
 exact IO;refine ci (fun g => ?_) fun g => ?_;refine cv (fun i => ?_) fun i => ?_;refine dD () ?_ ?_ ?_;trivial
 · first | (obtain rfl : f = true := b.symm.trans (Qah (by omega)); (repeat (first | exact bC | refine bq rfl ?_)); done) | (obtain rfl : f = (((a : Nat) : Int) == 33) := b.symm.trans (nU (by omega)); (repeat (first | exact bC | refine bq rfl ?_)); done)
 exact IO;refine dD () ?_ ?_ ?_;trivial
 · first | (obtain rfl : f = true := b.symm.trans (Qah (by omega)); (repeat (first | exact bC | refine bq rfl ?_)); done) | (obtain rfl : f = (((a : Nat) : Int) == 33) := b.symm.trans (nU (by omega)); (repeat (first | exact bC | refine bq rfl ?_)); done)
 exact IO;refine dD () ?_ ?_ ?_;trivial
 · first | (obtain rfl : f = true := b.symm.trans (Qah (by omega)); (repeat (first | exact bC | refine bq rfl ?_)); done) | (obtain rfl : f = (((a : Nat) : Int) == 33) := b.symm.trans (nU (by omega)); (repeat (first | exact bC | refine bq rfl ?_)); done)
 exact IO;intro _ _;refine aD rfl (fun w => ?_) fun w => ?_;refine au 11 ?_;refine aS (.cons (aN rfl) (.cons (aN rfl) (.cons (aN rfl) (.cons (aN rfl) .nil)))) ?_;have q := Qas (b.trans w);rw [MC a h q];exact ap;refine dw (fun _ : Unit => True) (fun _ => [(0, iQ a), (32, .bool k)]) (fun _ => R) ?_ ?_;have B : ¬ ((14 ≤ a ∧ a ≤ 21) ∨ (23 ≤ a ∧ a ≤ 25) ∨ a = 33) := fun q => w (by rw [← b]; exact Qah q);refine aw ?_;refine cv (fun r => ?_) fun r => ?_;refine dD () ?_ ?_ ?_;trivial
 · first | (obtain rfl : k = true := d.symm.trans (Qah (by omega)); (repeat (first | exact bC | refine bq rfl ?_)); done) | (obtain rfl : k = (((a : Nat) : Int) == 37) := d.symm.trans (nU (by omega)); (repeat (first | exact bC | refine bq rfl ?_)); done)
 exact IO;refine cv (fun s => ?_) fun s => ?_;refine dD () ?_ ?_ ?_;trivial
 · first | (obtain rfl : k = true := d.symm.trans (Qah (by omega)); (repeat (first | exact bC | refine bq rfl ?_)); done) | (obtain rfl : k = (((a : Nat) : Int) == 37) := d.symm.trans (nU (by omega)); (repeat (first | exact bC | refine bq rfl ?_)); done)
 exact IO;refine dD () ?_ ?_ ?_;trivial
 · first | (obtain rfl : k = true := d.symm.trans (Qah (by omega)); (repeat (first | exact bC | refine bq rfl ?_)); done) | (obtain rfl : k = (((a : Nat) : Int) == 37) := d.symm.trans (nU (by omega)); (repeat (first | exact bC | refine bq rfl ?_)); done)
 exact IO;intro _ _;refine aD rfl (fun x => ?_) fun x => ?_;refine au 11 ?_;refine aS (.cons (aN rfl) (.cons (aN rfl) (.cons (aN rfl) (.cons (aN rfl) .nil)))) ?_;have q := Qas (d.trans x);rw [MD a h q];exact ap;refine dw (fun _ : Unit => True) (fun _ => [(0, iQ a), (43, .bool j)]) (fun _ => R) ?_ ?_;have C : ¬ (a = 22 ∨ a = 32 ∨ a = 37) := fun q => x (by rw [← d]; exact Qah q);refine aw ?_;refine cv (fun t => ?_) fun t => ?_;refine dD () ?_ ?_ ?_;trivial
 · first | (obtain rfl : j = true := c.symm.trans (Qah (by omega)); (repeat (first | exact bC | refine bq rfl ?_)); done) | (obtain rfl : j = decide ((a : Int) ≤ 31) := c.symm.trans (Qaz.2 (by omega)); (repeat (first | exact bC | refine bq rfl ?_)); done) | (obtain rfl : j = false := c.symm.trans (Qal (by omega)); (repeat (first | exact bC | refine bq rfl ?_)); done)
 exact IO;refine cv (fun u => ?_) fun u => ?_;refine dD () ?_ ?_ ?_;trivial
 · first | (obtain rfl : j = true := c.symm.trans (Qah (by omega)); (repeat (first | exact bC | refine bq rfl ?_)); done) | (obtain rfl : j = decide ((a : Int) ≤ 31) := c.symm.trans (Qaz.2 (by omega)); (repeat (first | exact bC | refine bq rfl ?_)); done) | (obtain rfl : j = false := c.symm.trans (Qal (by omega)); (repeat (first | exact bC | refine bq rfl ?_)); done)
 exact IO;refine ci (fun l => ?_) fun l => ?_;refine dD () ?_ ?_ ?_;trivial
 · first | (obtain rfl : j = true := c.symm.trans (Qah (by omega)); (repeat (first | exact bC | refine bq rfl ?_)); done) | (obtain rfl : j = decide ((a : Int) ≤ 31) := c.symm.trans (Qaz.2 (by omega)); (repeat (first | exact bC | refine bq rfl ?_)); done) | (obtain rfl : j = false := c.symm.trans (Qal (by omega)); (repeat (first | exact bC | refine bq rfl ?_)); done)
 exact IO;refine dD () ?_ ?_ ?_;trivial
 · first | (obtain rfl : j = true := c.symm.trans (Qah (by omega)); (repeat (first | exact bC | refine bq rfl ?_)); done) | (obtain rfl : j = decide ((a : Int) ≤ 31) := c.symm.trans (Qaz.2 (by omega)); (repeat (first | exact bC | refine bq rfl ?_)); done) | (obtain rfl : j = false := c.symm.trans (Qal (by omega)); (repeat (first | exact bC | refine bq rfl ?_)); done)
 exact IO;intro _ _;refine ai (fun y => ?_) fun y => ?_;refine aS (.cons (aN rfl) (.cons (aN rfl) (.cons (aN rfl) (.cons (aN rfl) .nil)))) ?_;have q := Qas (c.trans y);rw [a5i a h q];exact ap;have D : ¬ (a = 26 ∨ a = 27 ∨ (28 ≤ a ∧ a ≤ 31)) := fun q => y (by rw [← c]; exact Qah q);refine ai (fun E => ?_) fun E => ?_;refine aS (.cons (aN rfl) (.cons (aN rfl) (.cons (aN rfl) (.cons (aN rfl) .nil)))) ?_;rw [ME a h (by omega)];exact ap;refine aS (.cons (aN rfl) (.cons (aN rfl) (.cons (aN rfl) (.cons (aN rfl) .nil)))) ?_;have A : ¬ (1 ≤ a ∧ a ≤ 13) := fun q => v (by rw [← e]; exact Qah q);have B : ¬ ((14 ≤ a ∧ a ≤ 21) ∨ (23 ≤ a ∧ a ≤ 25) ∨ a = 33) := fun q => w (by rw [← b]; exact Qah q);have C : ¬ (a = 22 ∨ a = 32 ∨ a = 37) := fun q => x (by rw [← d]; exact Qah q);have D : ¬ (a = 26 ∨ a = 27 ∨ (28 ≤ a ∧ a ≤ 31)) := fun q => y (by rw [← c]; exact Qah q);rw [a5j a h (by omega)];exact ap
theorem FM may (n : Nat) : sQ W0 294 [.bool may, iQ n] R (.bool (i9 may n)) R := by
 cases may with
 | false =>
  refine am func294 ntmps294 ?_;refine dj rfl rfl rfl ?_ ?_;intro c;refine aw ?_;refine ae ?_
  first | (rw [show i9 false n = true from Qah (by omega)]; exact ⟨_, ⟨rfl, rfl⟩, inferInstance⟩) | (rw [show i9 false n = false from Qal (by omega)]; exact ⟨_, ⟨rfl, rfl⟩, inferInstance⟩) | exact absurd g1_4 (by decide) | exact absurd g1_8 (by decide) | exact absurd a (by decide) | exact absurd b (by decide)
  intro c;refine au 3 ?_;refine i6 rfl rfl rfl ?_ ?_;intro a;refine aw ?_;refine ci (fun b => ?_) fun b => ?_;refine ae ?_
  first | (rw [show i9 false n = true from Qah (by omega)]; exact ⟨_, ⟨rfl, rfl⟩, inferInstance⟩) | (rw [show i9 false n = false from Qal (by omega)]; exact ⟨_, ⟨rfl, rfl⟩, inferInstance⟩) | exact absurd g1_4 (by decide) | exact absurd g1_8 (by decide) | exact absurd a (by decide) | exact absurd b (by decide)
  refine ae ?_
  first | (rw [show i9 false n = true from Qah (by omega)]; exact ⟨_, ⟨rfl, rfl⟩, inferInstance⟩) | (rw [show i9 false n = false from Qal (by omega)]; exact ⟨_, ⟨rfl, rfl⟩, inferInstance⟩) | exact absurd g1_4 (by decide) | exact absurd g1_8 (by decide) | exact absurd a (by decide) | exact absurd b (by decide)
  intro a;refine aw ?_;refine ae ?_
  first | (rw [show i9 false n = true from Qah (by omega)]; exact ⟨_, ⟨rfl, rfl⟩, inferInstance⟩) | (rw [show i9 false n = false from Qal (by omega)]; exact ⟨_, ⟨rfl, rfl⟩, inferInstance⟩) | exact absurd g1_4 (by decide) | exact absurd g1_8 (by decide) | exact absurd a (by decide) | exact absurd b (by decide)
 | true =>
  refine am func294 ntmps294 ?_;refine dj rfl rfl rfl (fun c => ?_) fun c => ?_;refine au 13 ?_;refine ae ?_
  first | (rw [show i9 true n = true from Qah (by omega)]; exact ⟨_, ⟨rfl, rfl⟩, inferInstance⟩) | (rw [show i9 true n = decide ((n : Int) < 16) from Qaz.2 (by omega)]; exact ⟨_, ⟨rfl, rfl⟩, inferInstance⟩) | exact absurd (by decide) g1_4 | exact absurd (by omega) g1_8 | exact absurd (by decide) a | exact absurd (by omega) b
  refine au 3 ?_;refine i6 rfl rfl rfl (fun a => ?_) fun a => ?_;refine ac rfl (aM rfl) ?_;refine cz rfl rfl (ac rfl (tZ rfl rfl) (cz rfl rfl (ac rfl (jO rfl rfl) (cz rfl rfl (ac rfl (aM rfl) ?_)))));refine i6 rfl rfl rfl (fun b => ?_) fun b => ?_;refine au 10 ?_;refine ae ?_
  first | (rw [show i9 true n = true from Qah (by omega)]; exact ⟨_, ⟨rfl, rfl⟩, inferInstance⟩) | (rw [show i9 true n = decide ((n : Int) < 16) from Qaz.2 (by omega)]; exact ⟨_, ⟨rfl, rfl⟩, inferInstance⟩) | exact absurd (by decide) g1_4 | exact absurd (by omega) g1_8 | exact absurd (by decide) a | exact absurd (by omega) b
  refine aw ?_;refine ae ?_
  first | (rw [show i9 true n = true from Qah (by omega)]; exact ⟨_, ⟨rfl, rfl⟩, inferInstance⟩) | (rw [show i9 true n = decide ((n : Int) < 16) from Qaz.2 (by omega)]; exact ⟨_, ⟨rfl, rfl⟩, inferInstance⟩) | exact absurd (by decide) g1_4 | exact absurd (by omega) g1_8 | exact absurd (by decide) a | exact absurd (by omega) b
  refine aw ?_;refine ae ?_
  first | (rw [show i9 true n = true from Qah (by omega)]; exact ⟨_, ⟨rfl, rfl⟩, inferInstance⟩) | (rw [show i9 true n = decide ((n : Int) < 16) from Qaz.2 (by omega)]; exact ⟨_, ⟨rfl, rfl⟩, inferInstance⟩) | exact absurd (by decide) g1_4 | exact absurd (by omega) g1_8 | exact absurd (by decide) a | exact absurd (by omega) b
theorem MI {op n} (a : ¬ (op = 18 ∨ op = 19 ∨ op = 20)) (b : ¬ (op = 37 ∨ op = 38)) (h : gn op / 8 % 2 = 0 → n = 0) : dH op n = decide (-8192 ≤ n ∧ n ≤ 8191) := by
 rw [dH, Qab a, Qab b];split
 rename_i q
 have := h q;apply Qaz.2; omega;rfl
theorem FN i : sQ W0 219 [.agg (fW i).toArray] R (.bool (gX i)) R := by
 obtain ⟨H, I⟩ : ∃ p, (gn i.op % 2 != 0) = p := ⟨_, rfl⟩
 obtain ⟨J, K⟩ : ∃ p, (gn i.op / 2 % 2 != 0) = p := ⟨_, rfl⟩
 obtain ⟨L, M⟩ : ∃ p, (gn i.op / 4 % 2 != 0) = p := ⟨_, rfl⟩
 obtain ⟨A, B⟩ : ∃ p, (gn i.op / 8 % 2 != 0) = p := ⟨_, rfl⟩
 obtain ⟨t, N⟩ : ∃ p, i9 H i.d = p := ⟨_, rfl⟩
 obtain ⟨C, O⟩ : ∃ p, i9 J i.a = p := ⟨_, rfl⟩
 obtain ⟨E, P⟩ : ∃ p, i9 L i.b = p := ⟨_, rfl⟩
 have Q : A = true → gn i.op / 8 % 2 ≠ 0 := fun q => by rw [q] at B; exact QbL.1 B
 have u : gX i = (om i.op && t && C && E && dH i.op i.im) := by
  unfold gX; rw [I, K, M, N, O, P]
 rw [u];refine am func219 ntmps219 ?_;refine bA fun s => ?_;refine cv (fun v => ?_) fun v => ?_;refine ae ?_;rw [show om i.op = false from Qal (by omega)];exact ap;refine ai (fun U => ?_) fun U => ?_;refine ae ?_;rw [show om i.op = false from Qal (by omega)];exact ap;have D : 1 ≤ i.op ∧ i.op ≤ 41 := by omega
 rw [show om i.op = true from Qah D];refine ku (aC call293 (a5p i.op (by omega))) ?_;rw [I, K, M, B];refine au 11 ?_;refine dw (fun _ : Unit => (t = true ∧ C = true ∧ E = true) ∧ (gn i.op / 8 % 2 = 0 → i.im = 0) ∧ 1 ≤ i.op ∧ i.op ≤ 41) (fun _ => [(1, pV s)]) (fun _ => pt s (ag (fW i) 272) :: R) ?_ ?_;refine au 5 ?_;refine ah (aC Om (FM H i.d)) ?_;rw [N];refine cv (fun g => ?_) fun g => ?_;refine ae ?_;rw [show t = false by simpa using g];exact ap;refine ah (aC Om (FM J i.a)) ?_;rw [O];refine cv (fun f => ?_) fun f => ?_;refine ae ?_;rw [show t = true by simpa using g, show C = false by simpa using f];exact ap;refine ah (aC Om (FM L i.b)) ?_;rw [P];refine cv (fun j => ?_) fun j => ?_;refine ae ?_;rw [show t = true by simpa using g, show C = true by simpa using f, show E = false by simpa using j];exact ap;refine ci (fun c => ?_) fun c => ?_;refine ai (fun S => ?_) fun S => ?_;refine ae ?_;have F : A = false := by simpa using c
 have n : gn i.op / 8 % 2 = 0 := by
  have := B;rw [F] at this;simpa using this
 have G : dH i.op i.im = false := by
  rw [dH, Qab (fun q => by have w : gn i.op = 11 := MC i.op (by omega) (by omega); rw [w] at n; exact absurd n (by decide)), Qab (fun q => by
   rcases q with q | q;have w : gn i.op = 9 := MD i.op (by omega) (by omega);rw [w] at n; exact absurd n (by decide);have w : gn i.op = 10 := ME i.op (by omega) q
   rw [w] at n; exact absurd n (by decide)), Qad n]
  exact Qal S
 rw [G, QcT];exact ap;refine bY () ?_;refine ⟨⟨by simpa using g, by simpa using f, by simpa using j⟩, fun q => ?_, D⟩
 cases o : A with
 | false => first | omega | (rw [o] at c; exact absurd rfl c) | (rw [o] at c; simp at c)
 | true => exact absurd q (Q o)
 refine bY () ?_;refine ⟨⟨by simpa using g, by simpa using f, by simpa using j⟩, fun q => ?_, D⟩
 cases o : A with
 | false => first | omega | (rw [o] at c; exact absurd rfl c) | (rw [o] at c; simp at c)
 | true => exact absurd q (Q o)
 intro _ ⟨⟨V, W, X⟩, T, D⟩;rw [V, W, X];simp only [Qbe];refine dw (fun _ : Unit => ¬ (i.op = 18 ∨ i.op = 19 ∨ i.op = 20)) (fun _ => [(1, pV s)]) (fun _ => pt s (ag (fW i) 272) :: R) ?_ ?_;refine au 6 ?_;refine cv (fun x => ?_) fun x => ?_;have e : i.op = 18 ∨ i.op = 19 ∨ i.op = 20 := by omega
 refine ci (fun k => ?_) fun k => ?_;rw [show dH i.op i.im = decide (i.im ≤ 31) by rw [dH, Qad e]; apply Qaz.2; omega];exact ae ap;rw [show dH i.op i.im = false by rw [dH, Qad e]; apply Qal; omega];exact ae ap;refine cv (fun y => ?_) fun y => ?_;have e : i.op = 18 ∨ i.op = 19 ∨ i.op = 20 := by omega
 refine ci (fun k => ?_) fun k => ?_;rw [show dH i.op i.im = decide (i.im ≤ 31) by rw [dH, Qad e]; apply Qaz.2; omega];exact ae ap;rw [show dH i.op i.im = false by rw [dH, Qad e]; apply Qal; omega];exact ae ap;refine ai (fun Y => ?_) fun Y => ?_;have e : i.op = 18 ∨ i.op = 19 ∨ i.op = 20 := by omega
 refine ci (fun k => ?_) fun k => ?_;rw [show dH i.op i.im = decide (i.im ≤ 31) by rw [dH, Qad e]; apply Qaz.2; omega];exact ae ap;rw [show dH i.op i.im = false by rw [dH, Qad e]; apply Qal; omega];exact ae ap;exact bY () (by omega);intro _ h;refine dw (fun _ : Unit => ¬ (i.op = 37 ∨ i.op = 38)) (fun _ => [(1, pV s)]) (fun _ => pt s (ag (fW i) 272) :: R) ?_ ?_;refine au 6 ?_;refine cv (fun z => ?_) fun z => ?_;have e : i.op = 37 ∨ i.op = 38 := by omega
 refine ci (fun l => ?_) fun l => ?_;rw [show dH i.op i.im = decide (i.im < 9) by rw [dH, Qab h, Qad e]; apply Qaz.2; omega];exact ae ap;rw [show dH i.op i.im = false by rw [dH, Qab h, Qad e]; apply Qal; omega];exact ae ap;refine ai (fun Z => ?_) fun Z => ?_;have e : i.op = 37 ∨ i.op = 38 := by omega
 refine ci (fun l => ?_) fun l => ?_;rw [show dH i.op i.im = decide (i.im < 9) by rw [dH, Qab h, Qad e]; apply Qaz.2; omega];exact ae ap;rw [show dH i.op i.im = false by rw [dH, Qab h, Qad e]; apply Qal; omega];exact ae ap;exact bY () (by omega);intro _ m;refine aw ?_;refine ci (fun r => ?_) fun r => ?_;rw [MI h m T, show decide (-8192 ≤ i.im ∧ i.im ≤ 8191) = decide (i.im ≤ 8191) from Qaz.2 (by omega)];exact ae ap;rw [MI h m T, show decide (-8192 ≤ i.im ∧ i.im ≤ 8191) = false from Qal (by omega)];exact ae ap
theorem a5q w (j : w < 4294967296) : sQ W0 155 [wV w] R (.tuple #[.agg (fW (if gX (fF w) then fF w else Bq)).toArray, .bool (gX (fF w))]) R := by
 have l : w / 262144 < 16384 := by omega
 obtain ⟨i, a⟩ : ∃ i, fF w = i := ⟨_, rfl⟩
 rw [a];obtain ⟨z, g⟩ : ∃ z, gX i = z := ⟨_, rfl⟩
 rw [g];refine am func155 ntmps155 ?_;refine bi fun c => ?_;refine gD (b := c) (o' := ag (fW Bq) 272) rfl ?_;refine aw ?_;refine aa (dV rfl rfl (by decide) (io w 64)) ?_;refine aa (bD (bS (by omega))) ?_;refine aa (j8 rfl rfl (by decide) (jS (k := .u32) (s := 6) (by decide))) ?_;refine aa (dV rfl rfl (by decide) (io (w / 2 ^ 6) 16)) ?_;refine aa (bD (bS (by omega))) ?_;refine aa (j8 rfl rfl (by decide) (jS (k := .u32) (s := 10) (by decide))) ?_;refine aa (dV rfl rfl (by decide) (io (w / 2 ^ 10) 16)) ?_;refine aa (bD (bS (by omega))) ?_;refine aa (j8 rfl rfl (by decide) (jS (k := .u32) (s := 14) (by decide))) ?_;refine aa (dV rfl rfl (by decide) (io (w / 2 ^ 14) 16)) ?_;refine aa (bD (bS (by omega))) ?_;refine aa (j8 rfl rfl (by decide) (jS (k := .u32) (s := 18) (by decide))) ?_;refine aa (bD (bS (by omega))) ?_;refine bi fun d => ?_;refine jb 2 aB ?_;refine dw (fun _ : Unit => True) (fun _ => [(2, pV c), (4, pV d)]) (fun _ => pt c (ag (fW Bq) 272) :: pt d (ag (fW i) 272) :: R) ?_ ?_;refine au 1 ?_;refine gD (b := d) (o' := ag (fW ⟨w % 64, w / 64 % 16, w / 1024 % 16, w / 16384 % 16, ((w / 262144 : Nat) : Int)⟩) 272) rfl ?_;refine aw ?_;refine ai (fun e => ?_) fun e => ?_;refine aa (jo rfl rfl (show IntKind.wrap .i64 (((w / 262144 : Nat) : Int) - 16384) = ((w / 262144 : Nat) : Int) - 16384 from bS (by omega))) ?_;refine av (iJ (by exact rfl : (fW ⟨w % 64, w / 64 % 16, w / 1024 % 16, w / 16384 % 16, ((w / 262144 : Nat) : Int)⟩).set 4 (iQ (((w / 262144 : Nat) : Int) - 16384)) = fW ⟨w % 64, w / 64 % 16, w / 1024 % 16, w / 16384 % 16, ((w / 262144 : Nat) : Int) - 16384⟩)) ?_;refine bY () ?_ (he := ?_);trivial;rw [← a, fF, rP, Qab (by have h : (8192 : Int) ≤ ((w / 262144 : Nat) : Int) := e; omega)];exact IO;refine bY () ?_ (he := ?_);trivial;rw [← a, fF, rP, Qad (by have h : ¬ ((8192 : Int) ≤ ((w / 262144 : Nat) : Int)) := e; omega)];exact IO;intro _ _;refine aw ?_;refine ah (aC On (FN i)) ?_;rw [g];refine ai (fun f => ?_) fun f => ?_;refine av aB ?_;refine aS (.cons (aX C6 pC rfl rfl) (.cons (aN rfl) .nil)) ?_;rw [show z = false by simpa using f];exact ap;refine av aB ?_;refine aS (.cons (aX C6 pC rfl rfl) (.cons (aN rfl) .nil)) ?_;rw [show z = true by simpa using f];exact ap
theorem wK {a} (h : ¬ (a = 35 ∨ a = 36 ∨ a = 37 ∨ a = 38 ∨ a = 39)) : iw a = ((a : Int) == 40) := by
 rw [Qag, Qba];unfold iw;rw [Qaj];omega
theorem a5r (a : Nat) : sQ W0 220 [iQ a] R (.bool (iw a)) R := by
 refine am func220 ntmps220 ?_;refine cv (fun e => ?_) fun e => ?_;refine ae ?_
 first | (rw [show iw a = true from Qah (by omega)]; exact ⟨_, ⟨rfl, rfl⟩, inferInstance⟩) | (rw [wK (by omega)]; exact ⟨_, ⟨rfl, rfl⟩, inferInstance⟩)
 refine cv (fun f => ?_) fun f => ?_;refine ae ?_
 first | (rw [show iw a = true from Qah (by omega)]; exact ⟨_, ⟨rfl, rfl⟩, inferInstance⟩) | (rw [wK (by omega)]; exact ⟨_, ⟨rfl, rfl⟩, inferInstance⟩)
 refine cv (fun b => ?_) fun b => ?_;refine ae ?_
 first | (rw [show iw a = true from Qah (by omega)]; exact ⟨_, ⟨rfl, rfl⟩, inferInstance⟩) | (rw [wK (by omega)]; exact ⟨_, ⟨rfl, rfl⟩, inferInstance⟩)
 refine cv (fun c => ?_) fun c => ?_;refine ae ?_
 first | (rw [show iw a = true from Qah (by omega)]; exact ⟨_, ⟨rfl, rfl⟩, inferInstance⟩) | (rw [wK (by omega)]; exact ⟨_, ⟨rfl, rfl⟩, inferInstance⟩)
 refine cv (fun d => ?_) fun d => ?_;refine ae ?_
 first | (rw [show iw a = true from Qah (by omega)]; exact ⟨_, ⟨rfl, rfl⟩, inferInstance⟩) | (rw [wK (by omega)]; exact ⟨_, ⟨rfl, rfl⟩, inferInstance⟩)
 refine ae ?_
 first | (rw [show iw a = true from Qah (by omega)]; exact ⟨_, ⟨rfl, rfl⟩, inferInstance⟩) | (rw [wK (by omega)]; exact ⟨_, ⟨rfl, rfl⟩, inferInstance⟩)
theorem FO : ∀ x, x < 16 → ∀ k, k ≤ 14 → iE .u32 (x : Nat) (k : Nat) = (x * 2 ^ k : Nat) := by decide +kernel
theorem a5s i (c : gX i = true) : sQ W0 295 [.agg (fW i).toArray] R (.tuple #[wV (mN i), iQ 0]) R := by
 obtain ⟨j, f, g, h, k⟩ := rQ c;rw [a5k c];refine am func295 ntmps295 ?_;refine bA fun l => ?_;refine ah (aC On (FN i)) ?_;refine aD rfl (fun e => ?_) fun e => ?_;rw [c] at e; exact absurd e (by decide);refine aw ?_;refine aa (bD (cZ (by omega))) ?_;refine aa (bD (cZ (by omega))) ?_;refine aa (lg rfl rfl (by decide) (FO i.d f 6 (by decide))) ?_;refine aa (ee (i.op + i.d * 64)) ?_;refine aa (bD (cZ (by omega))) ?_;refine aa (lg rfl rfl (by decide) (FO i.a g 10 (by decide))) ?_;refine aa (ee (i.op + i.d * 64 + i.a * 1024)) ?_;refine aa (bD (cZ (by omega))) ?_;refine aa (lg rfl rfl (by decide) (FO i.b h 14 (by decide))) ?_;refine aa (ee (i.op + i.d * 64 + i.a * 1024 + i.b * 16384)) ?_;refine aa (bD (d8 i.im)) ?_;refine aa (lg rfl rfl (by decide) (yF _ _)) ?_;refine aa (cY rfl rfl (d8 _)) ?_;exact aA ap
section
variable (W0 : World) (R : List HP) (i : Ins) (rb cb : Nat) (clock : Int) (x : Cpu) (id : Nat)
theorem yZ {W0 R} c t : sQ W0 221 [wV c, wV t] R (.agg (cq (ma c t)).toArray) R := by
 refine am func221 ntmps221 ?_;refine fi (dQ jN) fun a => ?_;refine aP (aH (aQ (aY (ac rfl (aM rfl) (ac rfl (aM rfl) (ac rfl (fB pD jN (aL aR (aL aU (aL aU (aL aR (aL gO (aL aR (aL aU (aL aU (aL aU fA))))))))) (bW rfl aR rfl rfl (Qaa rfl) SetL.eq (bW rfl aU rfl rfl (Qaa rfl) SetL.eq (bW rfl aU rfl rfl (Qaa rfl) SetL.eq fz)))) ?_))))));refine eU (fM dy rfl rfl rfl rfl rfl) ?_;rintro _ _ rfl;refine aP (aH (dv ?_));exact aS (.cons (aX dM dy rfl rfl) .nil) ap
theorem MJ {W0 R} i (a : gX i = true) : sQ W0 222 [.agg (fW i).toArray] R (wV (mN i)) R := by
 refine am func222 ntmps222 ?_;refine bA fun b => ?_;refine ah (aC call295 (a5s i a)) ?_;exact ae ap
theorem tM (a : x.rl.length = 16) pc : sQ W0 224 [pV rb, wV pc] (pt rb (cI x.rl x.pc) :: R) (.agg (cq (lr x pc).1).toArray) (pt rb (cI (lr x pc).2.rl (lr x pc).2.pc) :: R) := by
 refine am func224 ntmps224 ?_;refine bi fun b => ?_;refine eU (lL aU rfl rfl rfl (by rw [nS a]; decide) (pz a)) ?_;rintro _ _ rfl;refine aP (aH (aQ (aY (ac rfl (aM rfl) (ac rfl (fB pD jN (aL aR (aL aU (aL aU (aL aR (aL gO (aL aR (aL aU (aL aU (aL aU fA))))))))) (bW rfl aR rfl rfl (Qaa rfl) SetL.eq (bW rfl aU rfl rfl (Qaa rfl) SetL.eq fz))) ?_)))));refine eU (fM dy rfl rfl rfl rfl rfl) ?_;rintro _ _ rfl;refine aP (aH (dv ?_));exact aS (.cons (aX dM dy rfl rfl) .nil) ap
def pA (i : Ins) (x : Cpu) : Nat :=
  if i.op = 22 then uC i.im else if 14 ≤ i.op ∧ i.op ≤ 21 then kB (ir i.op) (bP x.rl i.a) (u32 i.im) else if 1 ≤ i.op ∧ i.op ≤ 13 then kB i.op (bP x.rl i.a) (bP x.rl i.b) else 0
theorem a5t {op} (h : 14 ≤ op ∧ op ≤ 21) : 1 ≤ ir op ∧ ir op ≤ 13 := by
 unfold ir; split;decide;split;decide;omega
theorem MK {i x} (a : CpOk x) : pA i x < 4294967296 := by
 unfold pA
 split; · exact dU _
 split; · exact vU (a.r.at_ _) (dU _)
 split; · exact vU (a.r.at_ _) (a.r.at_ _)
 decide
theorem a5u (e : CpOk x) (h : gX i = true) : sQ W0 223 [.agg (fW i).toArray, pV rb] (pt rb (cI x.rl x.pc) :: R) (.tuple #[wV (pA i x), .bool (decide (i.op ≤ 22))]) (pt rb (cI x.rl x.pc) :: R) := by
 obtain ⟨o, p, j, k, q⟩ := rQ h;have f := e.r.at_ i.a;have l := e.r.at_ i.b;refine am func223 ntmps223 ?_;refine bA fun s => ?_;refine ah (ao wY (v6 rb i.a e.r.len j)) ?_;refine ah (ao wY (v6 rb i.b e.r.len k)) ?_;refine ai (fun m => ?_) fun m => ?_;refine ah (aC call297 (a5l W0 _ i.im)) ?_;refine aA ?_;rw [pA, Qad (by omega), Qah (by omega)];exact ap;refine ah (aC call298 (a5m W0 _ i.op (by omega))) ?_;refine ai (fun d => ?_) fun d => ?_;have g := a5t d;rw [Qad d];refine aa (bD (d8 i.im)) ?_;refine ah (aC call299 (MH W0 _ (bP x.rl i.a) (u32 i.im) (ir i.op) (by omega) f (dU _))) ?_;rw [Qad g, Qad g];refine aA ?_;rw [show pA i x = kB (ir i.op) (bP x.rl i.a) (u32 i.im) by rw [pA, Qab (by omega), Qad d], Qah (by omega)];exact ap;refine ah (aC call299 (MH W0 _ (bP x.rl i.a) (bP x.rl i.b) i.op (by omega) f l)) ?_;refine aA ?_;have n : pA i x = if 1 ≤ i.op ∧ i.op ≤ 13 then kB i.op (bP x.rl i.a) (bP x.rl i.b) else 0 := by rw [pA, Qab (by omega), Qab d]
 rw [n];by_cases c : 1 ≤ i.op ∧ i.op ≤ 13;rw [Qad c, Qad c, Qah (show i.op ≤ 22 by omega)];exact ap;rw [Qab c, Qab c, Qal (show ¬ i.op ≤ 22 by omega)];exact ap
theorem a5v (n : CpOk x) (A : i.a < 16) (B : i.b < 16) (h : 23 ≤ i.op ∧ i.op ≤ 27) : sQ W0 225 [.agg (fW i).toArray, pV rb] (pt rb (cI x.rl x.pc) :: R) (.agg (cq (rR i x)).toArray) (pt rb (cI x.rl x.pc) :: R) := by
 obtain ⟨c, t⟩ : ∃ a, mQ (bP x.rl i.a) i.im = a := ⟨_, rfl⟩
 obtain ⟨f, g⟩ : ∃ z, decide (i.op = 23 ∨ i.op = 26) = z := ⟨_, rfl⟩
 have C : mR i.op = if f then 4 else 1 := by
  rw [mR, ← g];by_cases q : i.op = 23 ∨ i.op = 26;rw [Qad q, Qah q]; rfl;rw [Qab q, Qal q]; rfl
 rw [rR, t, C];refine am func225 ntmps225 ?_;refine bA fun l => ?_;refine bi fun o => ?_;refine gD (b := l) (o' := ag (fW i) 272) rfl ?_;refine gD (b := o) (o' := ag (cq m9) 276) rfl ?_;refine aw ?_;refine ah (ao wY (v6 rb i.a n.r.len A)) ?_;refine ah (ao wY (v6 rb i.b n.r.len B)) ?_;refine aa (bD (d8 i.im)) ?_;refine iS 3 (cY rfl rfl (show _ = ((c : Nat) : Int) by rw [← t]; exact d8 _)) ?_;refine dw (fun _ : Unit => True) (fun _ => [(1, pV rb), (2, pV l), (4, pV o), (5, wV (bP x.rl i.a)), (7, wV (bP x.rl i.b)), (9, wV c), (10, .bool f)]) (fun _ => pt l (ag (fW i) 272) :: pt o (ag (cq m9) 276) :: pt rb (cI x.rl x.pc) :: R) ?_ ?_;refine au 5 ?_;refine cv (fun u => ?_) fun u => ?_;refine dD () ?_ ?_ ?_;trivial
 · first | (obtain rfl : f = true := g.symm.trans (Qah (by omega)); (repeat (first | exact bC | refine bq rfl ?_)); done) | (obtain rfl : f = (((i.op : Nat) : Int) == 26) := g.symm.trans (nU (by omega)); (repeat (first | exact bC | refine bq rfl ?_)); done)
 exact IO;refine dD () ?_ ?_ ?_;trivial
 · first | (obtain rfl : f = true := g.symm.trans (Qah (by omega)); (repeat (first | exact bC | refine bq rfl ?_)); done) | (obtain rfl : f = (((i.op : Nat) : Int) == 26) := g.symm.trans (nU (by omega)); (repeat (first | exact bC | refine bq rfl ?_)); done)
 exact IO;intro _ _;refine aw ?_;refine i6 rfl rfl rfl (fun e => ?_) fun e => ?_;refine au 2 ?_;refine aa (dV rfl rfl (by decide) (io c 4)) ?_;refine aD rfl (fun D => ?_) fun D => ?_;refine au 3 ?_;refine ah (aC CL (yZ 2 c)) ?_;refine av aB ?_;refine aS (.cons (aX dM dy rfl rfl) .nil) ?_;rw [Qad (by rw [Qad e]; omega)];exact ap;refine au 7 ?_;refine dw (fun _ : Unit => c % (if f then 4 else 1) = 0) (fun _ => [(1, pV rb), (2, pV l), (4, pV o), (7, wV (bP x.rl i.b)), (9, wV c), (11, iQ ((if f then 4 else 1 : Nat) : Int))]) (fun _ => pt l (ag (fW i) 272) :: pt o (ag (cq m9) 276) :: pt rb (cI x.rl x.pc) :: R) ?_ ?_;refine au 5 ?_;refine ai (fun v => ?_) fun v => ?_;refine dD () ?_ ?_ ?_
 first | (exact absurd (by assumption) e) | (rw [Qad (by assumption)]; omega)
 · rw [Qad (by assumption)]
   repeat (first | exact bC | refine bq rfl ?_)
 exact IO;refine dD () ?_ ?_ ?_;rw [Qab (by assumption), Nat.mod_one]
 · rw [Qab (by assumption)]
   repeat (first | exact bC | refine bq rfl ?_)
 exact IO;intro _ w;obtain ⟨m, p⟩ : ∃ m, (if f then 4 else 1 : Nat) = m := ⟨_, rfl⟩
 rw [p] at w ⊢;rw [Qab (by omega)];obtain ⟨E, y⟩ : ∃ z, decide (i.op = 26 ∨ i.op = 27) = z := ⟨_, rfl⟩
 refine aw ?_;refine cv (fun d => ?_) fun d => ?_;refine aa (aF (aJ (lW n.r.len))) ?_;refine ac rfl (cY rfl rfl (d8 _)) ?_;refine ac rfl (fB pD jN (aL aR (aL aU (aL aU (aL aR (aL gO (aL aR (aL aU (aL aU (aL aU fA))))))))) (bW rfl aR rfl rfl (Qaa rfl) SetL.eq (bW rfl aU rfl rfl (Qaa rfl) SetL.eq (bW rfl aR rfl rfl (Qaa rfl) SetL.eq (bW rfl aU rfl rfl (Qaa rfl) SetL.eq (bW rfl aU rfl rfl (Qaa rfl) SetL.eq fz)))))) ?_;refine eU (fM dy rfl rfl rfl rfl rfl) ?_;rintro _ _ rfl;refine aP (aH (dv (gQ (aS (.cons (aX dM dy rfl rfl) .nil) ?_))));rw [Qad (by omega)];exact ap;refine aD rfl (fun s => ?_) fun s => ?_;refine aQ ?_;refine aY (ac rfl (aM rfl) (ac rfl (aM rfl) (ac rfl (aM rfl) (ac rfl (aM rfl) (ac rfl (ik rfl) ?_)))));refine ac rfl (cD rfl Ci rfl aU rfl (by first | exact Qac _ | rfl)) ?_;refine ac rfl (aF (aJ (lW n.r.len))) ?_;refine ac rfl (cY rfl rfl (d8 _)) ?_;refine ac rfl (fB pD jN (aL aR (aL aU (aL aU (aL aR (aL gO (aL aR (aL aU (aL aU (aL aU fA))))))))) (bW rfl aR rfl rfl (Qaa rfl) SetL.eq (bW rfl aU rfl rfl (Qaa rfl) SetL.eq (bW rfl aR rfl rfl (Qaa rfl) SetL.eq (bW rfl aU rfl rfl (Qaa rfl) SetL.eq (bW rfl aU rfl rfl (Qaa rfl) SetL.eq fz)))))) ?_;refine eU (fM dy rfl rfl rfl rfl rfl) ?_;rintro _ _ rfl;refine aP (aH (dv (gQ (aS (.cons (aX dM dy rfl rfl) .nil) ?_))));rw [Qad (by omega)];exact ap;refine ii (aH (aQ ?_));refine bc [l, rb] 14 fun j => ?_;refine aj 0 10 j ?_;refine az 10 j (aF (cp (k := 1) rfl (lW n.r.len))) ?_;refine az 11 j (cY rfl rfl (d8 _)) ?_;refine bu 12 rfl rfl rfl j (fB pD jN (aL aR (aL aU (aL aU (aL aR (aL gO (aL aR (aL aU (aL aU (aL aU fA))))))))) (bW rfl aR rfl rfl (Qaa rfl) SetL.eq (bW rfl aU rfl rfl (Qaa rfl) SetL.eq (bW rfl aR rfl rfl (Qaa rfl) SetL.eq (bW rfl gO rfl rfl (Qaa rfl) SetL.eq (bW rfl aR rfl rfl (Qaa rfl) SetL.eq (bW rfl aU rfl rfl (Qaa rfl) SetL.eq fz))))))) ?_;refine cj 13 aB fun j => ?_;refine aK ?_;refine aS (.cons (aX dM dy rfl rfl) .nil) ?_;rw [Qab (by omega), show decide (i.op = 24) = (((i.op : Nat) : Int) == 24) from nU (by omega)];exact ap;refine au 13 ?_;refine dw (fun _ : Unit => c % (if f then 4 else 1) = 0) (fun _ => [(1, pV rb), (2, pV l), (4, pV o), (7, wV (bP x.rl i.b)), (9, wV c), (11, iQ ((if f then 4 else 1 : Nat) : Int))]) (fun _ => pt l (ag (fW i) 272) :: pt o (ag (cq m9) 276) :: pt rb (cI x.rl x.pc) :: R) ?_ ?_;refine au 5 ?_;refine ai (fun v => ?_) fun v => ?_;refine dD () ?_ ?_ ?_
 first | (exact absurd (by assumption) e) | (rw [Qad (by assumption)]; omega)
 · rw [Qad (by assumption)]
   repeat (first | exact bC | refine bq rfl ?_)
 exact IO;refine dD () ?_ ?_ ?_;rw [Qab (by assumption), Nat.mod_one]
 · rw [Qab (by assumption)]
   repeat (first | exact bC | refine bq rfl ?_)
 exact IO;intro _ w;obtain ⟨m, p⟩ : ∃ m, (if f then 4 else 1 : Nat) = m := ⟨_, rfl⟩
 rw [p] at w ⊢;rw [Qab (by omega)];obtain ⟨E, y⟩ : ∃ z, decide (i.op = 26 ∨ i.op = 27) = z := ⟨_, rfl⟩
 refine aw ?_;refine cv (fun d => ?_) fun d => ?_;refine aa (aF (aJ (lW n.r.len))) ?_;refine ac rfl (cY rfl rfl (d8 _)) ?_;refine ac rfl (fB pD jN (aL aR (aL aU (aL aU (aL aR (aL gO (aL aR (aL aU (aL aU (aL aU fA))))))))) (bW rfl aR rfl rfl (Qaa rfl) SetL.eq (bW rfl aU rfl rfl (Qaa rfl) SetL.eq (bW rfl aR rfl rfl (Qaa rfl) SetL.eq (bW rfl aU rfl rfl (Qaa rfl) SetL.eq (bW rfl aU rfl rfl (Qaa rfl) SetL.eq fz)))))) ?_;refine eU (fM dy rfl rfl rfl rfl rfl) ?_;rintro _ _ rfl;refine aP (aH (dv (gQ (aS (.cons (aX dM dy rfl rfl) .nil) ?_))));rw [Qad (by omega)];exact ap;refine aD rfl (fun s => ?_) fun s => ?_;refine aQ ?_;refine aY (ac rfl (aM rfl) (ac rfl (aM rfl) (ac rfl (aM rfl) (ac rfl (aM rfl) (ac rfl (ik rfl) ?_)))));refine ac rfl (cD rfl Ci rfl aU rfl (by first | exact Qac _ | rfl)) ?_;refine ac rfl (aF (aJ (lW n.r.len))) ?_;refine ac rfl (cY rfl rfl (d8 _)) ?_;refine ac rfl (fB pD jN (aL aR (aL aU (aL aU (aL aR (aL gO (aL aR (aL aU (aL aU (aL aU fA))))))))) (bW rfl aR rfl rfl (Qaa rfl) SetL.eq (bW rfl aU rfl rfl (Qaa rfl) SetL.eq (bW rfl aR rfl rfl (Qaa rfl) SetL.eq (bW rfl aU rfl rfl (Qaa rfl) SetL.eq (bW rfl aU rfl rfl (Qaa rfl) SetL.eq fz)))))) ?_;refine eU (fM dy rfl rfl rfl rfl rfl) ?_;rintro _ _ rfl;refine aP (aH (dv (gQ (aS (.cons (aX dM dy rfl rfl) .nil) ?_))));rw [Qad (by omega)];exact ap;refine ii (aH (aQ ?_));refine bc [l, rb] 14 fun j => ?_;refine aj 0 10 j ?_;refine az 10 j (aF (cp (k := 1) rfl (lW n.r.len))) ?_;refine az 11 j (cY rfl rfl (d8 _)) ?_;refine bu 12 rfl rfl rfl j (fB pD jN (aL aR (aL aU (aL aU (aL aR (aL gO (aL aR (aL aU (aL aU (aL aU fA))))))))) (bW rfl aR rfl rfl (Qaa rfl) SetL.eq (bW rfl aU rfl rfl (Qaa rfl) SetL.eq (bW rfl aR rfl rfl (Qaa rfl) SetL.eq (bW rfl gO rfl rfl (Qaa rfl) SetL.eq (bW rfl aR rfl rfl (Qaa rfl) SetL.eq (bW rfl aU rfl rfl (Qaa rfl) SetL.eq fz))))))) ?_;refine cj 13 aB fun j => ?_;refine aK ?_;refine aS (.cons (aX dM dy rfl rfl) .nil) ?_;rw [Qab (by omega), show decide (i.op = 24) = (((i.op : Nat) : Int) == 24) from nU (by omega)];exact ap
theorem ML (c : CpOk x) (B : i.d < 16) (u : i.a < 16) (v : i.b < 16) (h : 28 ≤ i.op ∧ i.op ≤ 33) : sQ W0 226 [.agg (fW i).toArray, pV rb] (pt rb (cI x.rl x.pc) :: R) (.agg (cq (gF id clock.toNat i x).1).toArray) (pt rb (cI (gF id clock.toNat i x).2.rl (gF id clock.toNat i x).2.pc) :: R) := by
 have w := c.r.at_ i.a;have y := c.r.at_ i.b;obtain ⟨z, t⟩ : ∃ z, uB i.op (bP x.rl i.a) (bP x.rl i.b) = z := ⟨_, rfl⟩
 have e : hJ (i.d : Int) = true := by simp only [hJ, Qai]; omega
 rw [gF, Qab (by omega), Qab (by omega), Qab (by omega), Qab (by omega), t];refine am func226 ntmps226 ?_;refine bA fun l => ?_;refine bi fun m => ?_;refine gD (b := l) (o' := ag (fW i) 272) rfl ?_;refine gD (b := m) (o' := ag (cq m9) 276) rfl ?_;refine aw ?_;refine ah (ao wY (v6 rb i.a c.r.len u)) ?_;refine ah (ao wY (v6 rb i.b c.r.len v)) ?_;refine aa (aF (aJ (lW c.r.len))) ?_;refine aa (cY rfl rfl (d8 _)) ?_;refine bc [l, rb] 10 fun f => ?_;refine aj 0 3 f ?_;refine az 3 f (aF (cp (k := 1) rfl (lW c.r.len))) ?_;refine aj 4 2 f ?_;refine az 6 f (bD (d8 i.im)) ?_;refine az 7 f (qj rfl rfl (d8 _)) ?_;refine az 8 f (cY rfl rfl (d8 _)) ?_;refine aj 9 1 f ?_;refine aK ?_;refine dj rfl rfl rfl (fun o => ?_) fun o => ?_;refine au 6 ?_;refine dw (fun _ : Unit => 32 ≤ i.op) (fun _ => [(1, pV rb), (2, pV l), (4, pV m), (9, wV (cV x.pc)), (10, wV (if i.op = 33 then mQ (bP x.rl i.a) i.im else mP x.pc i.im))]) (fun _ => pt l (ag (fW i) 272) :: pt m (ag (cq m9) 276) :: pt rb (cI x.rl x.pc) :: R) ?_ ?_;refine au 7 ?_;refine ai (fun p => ?_) fun p => ?_;refine aa (bD (d8 i.im)) ?_;refine aa (cY rfl rfl (d8 _)) ?_;refine dD () ?_ ?_ ?_;omega
 · rw [Qad (by omega)]
   repeat (first | exact bC | refine bq rfl ?_)
 exact IO;refine dD () ?_ ?_ ?_;omega
 · rw [Qab (by omega)]
   repeat (first | exact bC | refine bq rfl ?_)
 exact IO;intro _ q;rw [Qab (by omega), Qad (by omega)];obtain ⟨s, g⟩ : ∃ n, (if i.op = 33 then mQ (bP x.rl i.a) i.im else mP x.pc i.im) = n := ⟨_, rfl⟩
 rw [g];refine aw ?_;refine ah (ao zI (wI rb (cV x.pc) i.d c.r.len)) ?_;rw [Qad e, Qad e, Qaf];refine ah (ao vq (tM W0 _ rb { x with rl := je x.rl i.d (cV x.pc) } (c.r.set i.d (cV x.pc) (dU _)).len s)) ?_;refine av aB ?_;exact aS (.cons (aX dM dy rfl rfl) .nil) ap;refine aw ?_;refine aD rfl (fun A => ?_) fun A => ?_;refine dw (fun _ : Unit => 32 ≤ i.op) (fun _ => [(1, pV rb), (2, pV l), (4, pV m), (9, wV (cV x.pc)), (10, wV (if i.op = 33 then mQ (bP x.rl i.a) i.im else mP x.pc i.im))]) (fun _ => pt l (ag (fW i) 272) :: pt m (ag (cq m9) 276) :: pt rb (cI x.rl x.pc) :: R) ?_ ?_;refine au 7 ?_;refine ai (fun p => ?_) fun p => ?_;refine aa (bD (d8 i.im)) ?_;refine aa (cY rfl rfl (d8 _)) ?_;refine dD () ?_ ?_ ?_;omega
 · rw [Qad (by omega)]
   repeat (first | exact bC | refine bq rfl ?_)
 exact IO;refine dD () ?_ ?_ ?_;omega
 · rw [Qab (by omega)]
   repeat (first | exact bC | refine bq rfl ?_)
 exact IO;intro _ q;rw [Qab (by omega), Qad (by omega)];obtain ⟨s, g⟩ : ∃ n, (if i.op = 33 then mQ (bP x.rl i.a) i.im else mP x.pc i.im) = n := ⟨_, rfl⟩
 rw [g];refine aw ?_;refine ah (ao zI (wI rb (cV x.pc) i.d c.r.len)) ?_;rw [Qad e, Qad e, Qaf];refine ah (ao vq (tM W0 _ rb { x with rl := je x.rl i.d (cV x.pc) } (c.r.set i.d (cV x.pc) (dU _)).len s)) ?_;refine av aB ?_;exact aS (.cons (aX dM dy rfl rfl) .nil) ap;refine aw ?_;rw [Qad (by omega)];refine ah (aC call300 (a5o W0 _ (bP x.rl i.a) (bP x.rl i.b) i.op (by omega) w y)) ?_;rw [t];refine ai (fun j => ?_) fun j => ?_;rw [Qad j];refine ah (ao vq (tM W0 _ rb x c.r.len (mP x.pc i.im))) ?_;refine av aB ?_;exact aS (.cons (aX dM dy rfl rfl) .nil) ap;rw [Qab j];refine ah (ao vq (tM W0 _ rb x c.r.len (cV x.pc))) ?_;refine av aB ?_;exact aS (.cons (aX dM dy rfl rfl) .nil) ap
theorem BX (e : CpOk x) (y : gX i = true) (m : id < 4) (A : 0 ≤ clock) (h : 34 ≤ i.op) (hk : iw i.op = true → e8 x.cs = true) : sQ W0 227 [.agg (fW i).toArray, pV rb, pV cb, iQ clock] (pt rb (cI x.rl x.pc) :: pt cb (d9 x.cs id) :: R) (.agg (cq (kE id clock.toNat i x).1).toArray) (pt rb (cI (kE id clock.toNat i x).2.rl (kE id clock.toNat i x).2.pc) :: pt cb (d9 (kE id clock.toNat i x).2.cs id) :: R) := by
 obtain ⟨I, J, B, K, z⟩ := rQ y;have o : hJ (i.d : Int) = true := by simp only [hJ, Qai]; omega
 have f : 35 ≤ i.op → i.op ≤ 40 → e8 x.cs = true := fun a b => hk (by unfold iw; rw [Qaj]; omega);rw [kE];refine am func227 ntmps227 ?_;refine bA fun C => ?_;refine bi fun D => ?_;refine gD (b := C) (o' := ag (fW i) 272) rfl ?_;refine gD (b := D) (o' := ag (cq m9) 276) rfl ?_;refine aw ?_;refine aa (aF (aJ (lW e.r.len))) ?_;refine aa (cY rfl rfl (d8 _)) ?_;refine ai (fun E => ?_) fun E => ?_;refine ah (aC CL (yZ 6 0)) ?_;refine av aB ?_;refine aS (.cons (aX dM dy rfl rfl) .nil) ?_;rw [Qad (by omega)];exact ap;refine ai (fun F => ?_) fun F => ?_;refine aa (aF (aJ (lW e.r.len))) ?_;refine ah (aC CL (yZ 8 x.pc)) ?_;refine av aB ?_;refine aS (.cons (aX dM dy rfl rfl) .nil) ?_;rw [Qab (by omega), Qad (by omega)];exact ap;refine ai (fun G => ?_) fun G => ?_;refine av aB ?_;refine aS (.cons (aX dM dy rfl rfl) .nil) ?_;rw [Qab (by omega), Qab (by omega), Qab (by omega), Qab (by omega), Qab (by omega), qH, Qad (by omega)];exact ap;refine ai (fun H => ?_) fun H => ?_;refine av aB ?_;refine aS (.cons (aX dM dy rfl rfl) .nil) ?_;rw [Qab (by omega), Qab (by omega), Qab (by omega), Qab (by omega), Qab (by omega), qH, Qab (by omega), Qad (by omega)];exact ap;refine ai (fun s => ?_) fun s => ?_;refine av aB ?_;refine aS (.cons (aX dM dy rfl rfl) .nil) ?_;rw [Qab (by omega), Qab (by omega), Qab (by omega), Qab (by omega), Qab (by omega), qH, Qab (by omega), Qab (by omega)];exact ap;refine ai (fun t => ?_) fun t => ?_;rw [Qab (by omega), Qab (by omega), Qad (by omega)];refine ah (ao call301 (a4Z cb e.cs)) ?_;refine ah (ao vq (tM W0 _ rb x e.r.len (dm x.cs 2))) ?_;refine av aB ?_;exact aS (.cons (aX dM dy rfl rfl) .nil) ap;refine aD rfl (fun u => ?_) fun u => ?_;refine au 1 ?_;rw [Qab (by omega), Qab (by omega), Qab (by omega), Qad (by omega)];have g := f (by omega) (by omega);have j : ∃ n : Nat, i.im = (n : Int) ∧ n < 9 := by
  have p := z;rw [dH, Qab (by omega), Qad (by omega)] at p;have := Qas p;exact ⟨i.im.toNat, by omega, by omega⟩
 obtain ⟨n, w, k⟩ := j;refine au 3 ?_;refine iS 1 (aF (aJ (v := iQ (n : Int)) (by rw [← w]; rfl))) ?_;refine ah (ao call302 (a4X cb e.cs m n k clock A)) ?_;rw [Qad g, Qad g, show n = i.im.toNat by omega];refine ah (ao zI (wI rb (oY x.cs id clock.toNat i.im.toNat) i.d e.r.len)) ?_;rw [Qad o, Qad o, Qaf];refine ah (ao vq (tM W0 _ rb { x with rl := je x.rl i.d (oY x.cs id clock.toNat i.im.toNat) } (e.r.set i.d _ (DU e.cs m)).len (cV x.pc))) ?_;refine av aB ?_;exact aS (.cons (aX dM dy rfl rfl) .nil) ap;refine aw ?_;rw [Qab (by omega), Qab (by omega), Qab (by omega), Qab (by omega), Qad (by omega)];have g := f (by omega) (by omega);have j : ∃ n : Nat, i.im = (n : Int) ∧ n < 9 := by
  have p := z;rw [dH, Qab (by omega), Qad (by omega)] at p;have := Qas p;exact ⟨i.im.toNat, by omega, by omega⟩
 obtain ⟨n, w, k⟩ := j;rw [show i.im.toNat = n by omega];refine ew 12 (ao wY (v6 rb i.a e.r.len B)) ?_;refine iS 1 (aF (aJ (v := iQ (n : Int)) (by rw [← w]; rfl))) ?_;refine ah (ao call303 (a4Y cb e.cs n (bP x.rl i.a) k (e.r.at_ _) g)) ?_;refine aD rfl (fun l => ?_) fun l => ?_;refine au 1 ?_;have c : ¬ n ≤ 6 := fun q => l (by rw [Qad q]);rw [Qab c, Qab c, Qab c];refine aw ?_;refine ah (aC call222 (MJ i y)) ?_;refine ah (aC CL (yZ 1 (mN i))) ?_;refine av aB ?_;exact aS (.cons (aX dM dy rfl rfl) .nil) ap;refine au 3 ?_;have c : n ≤ 6 := by
  rcases QaD 6 n with q | q;exact absurd (by rw [Qab (by omega)]; decide) l;exact q
 rw [Qad c, Qad c, Qad c];refine aw ?_;refine ah (ao vq (tM W0 _ rb x e.r.len (cV x.pc))) ?_;refine av aB ?_;exact aS (.cons (aX dM dy rfl rfl) .nil) ap
theorem a5w {id k i x} (h : 1 ≤ i.op ∧ i.op ≤ 22) : gF id k i x = jT i x (pA i x) (cV x.pc) := by
 rw [gF, pA];by_cases a : i.op ≤ 13;rw [Qad a, Qab (by omega), Qab (by omega), Qad (by omega)];rw [Qab a];by_cases b : i.op ≤ 21;rw [Qad b, Qab (by omega), Qad (by omega)];rw [Qab b, Qad (by omega), Qad (by omega)]
theorem FP (hx : CpOk x) (hi : gX i = true) (hid : id < 4) (hc : 0 ≤ clock) : sQ W0 156 [.agg (fW i).toArray, pV rb, pV cb, iQ clock] (pt rb (cI x.rl x.pc) :: pt cb (d9 x.cs id) :: R) (.tuple #[.agg (cq (jU id clock.toNat i x).1).toArray, iQ 0]) (pt rb (cI (jU id clock.toNat i x).2.rl (jU id clock.toNat i x).2.pc) :: pt cb (d9 (jU id clock.toNat i x).2.cs id) :: R) := by
 obtain ⟨B, y, p, s, C⟩ := rQ hi;have m : hJ (i.d : Int) = true := by simp only [hJ, Qai]; omega
 obtain ⟨t, e⟩ : ∃ k, iw i.op = k := ⟨_, rfl⟩
 obtain ⟨o, f⟩ : ∃ k, e8 x.cs = k := ⟨_, rfl⟩
 rw [jU, e, f];refine am func156 ntmps156 ?_;refine bA fun u => ?_;refine bi fun v => ?_;refine gD (b := u) (o' := ag (fW i) 272) rfl ?_;refine gD (b := v) (o' := ag (cq m9) 276) rfl ?_;refine aw ?_;refine ah (aC On (FN i)) ?_;refine aD rfl (fun w => ?_) fun w => ?_;rw [hi] at w; exact absurd rfl w;refine au 2 ?_;refine dw (fun _ : Unit => t = true → o = true) (fun _ => [(1, pV rb), (2, pV cb), (3, iQ clock), (4, pV u), (8, pV v)]) (fun _ => pt u (ag (fW i) 272) :: pt v (ag (cq m9) 276) :: pt rb (cI x.rl x.pc) :: pt cb (d9 x.cs id) :: R) ?_ ?_;refine au 4 ?_;refine ah (aC call220 (a5r i.op)) ?_;rw [e];refine ci (fun a => ?_) fun a => ?_;refine ah (ao GU (BN cb hx.cs)) ?_;rw [show qY x.cs = [.bool (iu x.cs), iQ (gY x.cs), .bool (!o)] by rw [qY, f]];refine aa (EF rfl Gh rfl nj rfl) ?_;refine ai (fun l => ?_) fun l => ?_;refine ah (aC call222 (MJ i hi)) ?_;refine ah (aC CL (yZ 7 (mN i))) ?_;refine av aB ?_;refine aS (.cons (aX dM dy rfl rfl) (.cons (aN rfl) .nil)) ?_;rw [Qad (by rw [show t = true from a]; first | exact l | (rw [Qbe]; exact l) | (cases o; rfl; exact absurd rfl l))];exact ap;refine bY () ?_;intro q
 first | (simpa using l) | (subst q; exact absurd rfl a) | exact absurd q a
 refine bY () ?_;intro q
 first | (simpa using l) | (subst q; exact absurd rfl a) | exact absurd q a
 intro _ g;rw [Qab (by cases t <;> cases o <;> first | decide | exact absurd (g rfl) (by decide))];refine aw ?_;refine ah (ao call223 (a5u W0 _ i rb x hx hi)) ?_;refine ai (fun z => ?_) fun z => ?_;rw [a5w (by omega)];refine ah (ao zI (wI rb (pA i x) i.d hx.r.len)) ?_;rw [Qad m, Qad m, Qaf];refine aa (aF (aJ (lW (hx.r.set i.d _ (MK hx)).len))) ?_;refine aa (cY rfl rfl (d8 _)) ?_;refine ah (ao vq (tM W0 _ rb { x with rl := je x.rl i.d (pA i x) } (hx.r.set i.d _ (MK hx)).len (cV x.pc))) ?_;refine av aB ?_;exact aS (.cons (aX dM dy rfl rfl) (.cons (aN rfl) .nil)) ap;refine ci (fun n => ?_) fun n => ?_;refine ai (fun A => ?_) fun A => ?_;rw [show gF id clock.toNat i x = (rR i x, x) by rw [gF, Qab (by omega), Qab (by omega), Qab (by omega), Qad (by omega)]];refine ah (ao call225 (a5v W0 _ i rb x hx p s (by omega))) ?_;refine av aB ?_;exact aS (.cons (aX dM dy rfl rfl) (.cons (aN rfl) .nil)) ap;refine ci (fun c => ?_) fun c => ?_;refine ai (fun h => ?_) fun h => ?_;refine ah (ao call226 (ML W0 _ i rb clock x id hx y p s (by omega))) ?_;refine av aB ?_;refine aS (.cons (aX dM dy rfl rfl) (.cons (aN rfl) .nil)) ?_;have j : (gF id clock.toNat i x).2.cs = x.cs := by
  rw [gF, Qab (by omega), Qab (by omega), Qab (by omega), Qab (by omega)];split;rfl;rw [Qad (by omega)]
 rw [j];exact ap;rw [show gF id clock.toNat i x = kE id clock.toNat i x by rw [gF, Qab (by omega), Qab (by omega), Qab (by omega), Qab (by omega), Qab (by omega), Qab (by omega)]];refine ah (cA GV (BX W0 _ i rb cb clock x id hx hi hid hc (by omega) (by rw [e, f]; exact g))) ?_;refine av aB ?_;exact aS (.cons (aX dM dy rfl rfl) (.cons (aN rfl) .nil)) ap;rw [show gF id clock.toNat i x = kE id clock.toNat i x by rw [gF, Qab (by omega), Qab (by omega), Qab (by omega), Qab (by omega), Qab (by omega), Qab (by omega)]];refine ah (cA GV (BX W0 _ i rb cb clock x id hx hi hid hc (by omega) (by rw [e, f]; exact g))) ?_;refine av aB ?_;exact aS (.cons (aX dM dy rfl rfl) (.cons (aN rfl) .nil)) ap;refine ci (fun c => ?_) fun c => ?_;refine ai (fun h => ?_) fun h => ?_;refine ah (ao call226 (ML W0 _ i rb clock x id hx y p s (by omega))) ?_;refine av aB ?_;refine aS (.cons (aX dM dy rfl rfl) (.cons (aN rfl) .nil)) ?_;have j : (gF id clock.toNat i x).2.cs = x.cs := by
  rw [gF, Qab (by omega), Qab (by omega), Qab (by omega), Qab (by omega)];split;rfl;rw [Qad (by omega)]
 rw [j];exact ap;rw [show gF id clock.toNat i x = kE id clock.toNat i x by rw [gF, Qab (by omega), Qab (by omega), Qab (by omega), Qab (by omega), Qab (by omega), Qab (by omega)]];refine ah (cA GV (BX W0 _ i rb cb clock x id hx hi hid hc (by omega) (by rw [e, f]; exact g))) ?_;refine av aB ?_;exact aS (.cons (aX dM dy rfl rfl) (.cons (aN rfl) .nil)) ap;rw [show gF id clock.toNat i x = kE id clock.toNat i x by rw [gF, Qab (by omega), Qab (by omega), Qab (by omega), Qab (by omega), Qab (by omega), Qab (by omega)]];refine ah (cA GV (BX W0 _ i rb cb clock x id hx hi hid hc (by omega) (by rw [e, f]; exact g))) ?_;refine av aB ?_;exact aS (.cons (aX dM dy rfl rfl) (.cons (aN rfl) .nil)) ap
end
theorem u8x (w : Nat) (h : w < 4294967296) : u32 (IntKind.wrap .i32 (IntKind.wrap .i8 w)) = if 128 ≤ w % 256 then w % 256 + 4294967040 else w % 256 := by
 unfold u32 IntKind.wrap IntKind.signed IntKind.bits;simp
 repeat' split
 all_goals omega
theorem a5y (w : Nat) (h : w < 4294967296) : u32 (IntKind.wrap .i32 (IntKind.wrap .i16 w)) = if 32768 ≤ w % 65536 then w % 65536 + 4294901760 else w % 65536 := by
 unfold u32 IntKind.wrap IntKind.signed IntKind.bits;simp
 repeat' split
 all_goals omega
theorem a5z w (a : w < 4294967296) n : sQ W0 229 [wV w, iQ n] R (wV (oD w n)) R := by
 rw [oD, u8x w a, a5y w a];refine am func229 ntmps229 ?_;refine ai (fun b => ?_) fun b => ?_;refine aa (dV rfl rfl (by decide) (io w 256)) ?_;refine ai (fun c => ?_) fun c => ?_;refine aa (cY rfl rfl (show _ = ((w % 256 + 4294967040 : Nat) : Int) by rw [cZ (by omega)]; omega)) ?_;refine ae ?_;rw [Qad (by omega), Qad (by omega)];exact ap;refine ae ?_;rw [Qad (by omega), Qab (by omega)];exact ap;refine ai (fun d => ?_) fun d => ?_;refine aa (dV rfl rfl (by decide) (io w 65536)) ?_;refine ai (fun e => ?_) fun e => ?_;refine aa (cY rfl rfl (show _ = ((w % 65536 + 4294901760 : Nat) : Int) by rw [cZ (by omega)]; omega)) ?_;refine ae ?_;rw [Qab (by omega), Qad (by omega), Qad (by omega)];exact ap;refine ae ?_;rw [Qab (by omega), Qad (by omega), Qab (by omega)];exact ap;refine ae ?_;rw [Qab (by omega), Qab (by omega)];exact ap
structure Rz where
  r : Nat
  c : Nat
  v : Nat
  ps : Nat
  pm : Nat
  pl : Nat
  vic : Nat
  tim : Nat
  bx : Nat
  wv : Value
  i : Nat
  k : Cfg
def q8 : List Value := [.int .u32 0, .int .u32 0, .int .u32 0, .int .i64 0, .bool false, .int .i64 0, .int .i64 0, .int .i64 0]
def FQ : List Value := q8 ++ q8 ++ q8
@[reducible] def ke (z : Rz) (g : Gu) (tv : Value) : List Value := dI z.k ++ [.int .i64 z.i, z.wv, pV z.pl, pV z.r, pV z.c, pV z.v] ++ FQ ++ [pV z.vic, pV z.tim, pV z.bx, tv, .int .i64 g.clock, .bool g.halted, wV 0, wV 0, wV 0, wV 0]
abbrev rn (z : Rz) (g : Gu) (tv : Value) : Obj := ag (ke z g tv) 101
def di (b : Nat) (x : Rz × Gu) : HP := chk (fun C => ∃ a c, C = [pt b (rn x.1 x.2 (.slice a x.2.es.length c)), osl 208 21 (.slice a x.2.es.length c) (x.2.es.flatMap eS)])
section
variable {P : Program} {W0 : World} {N : FSz} {K : Act → World → Prop} {e : b0} {A B R R1 R2 : List HP} {b n : Nat} {z : Rz} {g : Gu} {f : FuncId} {args : List Value} {Post : Value → List HP → Prop}
theorem FR (h : ∀ a c, bH P W0 f args (pt b (rn z g (.slice a g.es.length c)) :: osl 208 21 (.slice a g.es.length c) (g.es.flatMap eS) :: R) Post) : bH P W0 f args (di b (z, g) :: R) Post :=
  qq fun C d => by obtain ⟨a, c, rfl⟩ := d; exact h a c
theorem pB [hk : Tk di b A (z, g) R] (h : ∀ a c, ax W0 N K e (pt b (rn z g (.slice a g.es.length c)) :: osl 208 21 (.slice a g.es.length c) (g.es.flatMap eS) :: R)) : ax W0 N K e A :=
  gk (r := di) (b := b) (nu fun C d => by obtain ⟨a, c, rfl⟩ := d; exact h a c)
theorem eD {a c vs} [d : Tk pt b A (rn z g (.slice a n c)) R1] [e : Tk (osl 208 21) (.slice a n c) R1 vs R2] (f : vs = g.es.flatMap eS) (h : n = g.es.length) [k : Ent R2 B] : Ent A (di b (z, g) :: B) := by
 subst f; subst h;exact (Ent.ofPerm (d.perm.trans (e.perm.cons _))).trans ((Ent.cons (Ent.cons k)).trans (g5 (R := B) (C := [_, _]) ⟨a, c, rfl⟩))
theorem mq [hk : Tk di b A (z, g) R] {k v} (d : ∀ e, (ke z g e)[k]? = some v) : kg (aT W0 A) b k v := fun w f => by
 obtain ⟨C, ⟨a, c, rfl⟩, h⟩ := (f.perm hk.perm).chk;exact (aJ (A := pt b (rn z g (.slice a g.es.length c)) :: osl 208 21 (.slice a g.es.length c) (g.es.flatMap eS) :: R) (d _)) w h
end
section
variable (W0 : World) (R : List HP) (b : Nat) (z : Rz) (g : Gu)
theorem BY tv (hk : g.clock < 1000000000) : sQ W0 139 [pV b] (pt b (rn z g tv) :: R) (iQ (dZ g.clock)) (pt b (rn z g tv) :: R) := by
 refine kS func139 ntmps139 rfl rfl ?_;refine aQ (aY (ac rfl (bj rfl) (aP (aH (aQ (aY (ac rfl (aM rfl) (ac rfl (ik rfl) ?_))))))));refine ac rfl (cD rfl mr rfl aR rfl (by first | exact Qac _ | rfl)) ?_;refine ac rfl (cg db rfl (aJ rfl)) ?_;refine ac rfl (jo rfl rfl (bS (by omega))) ?_;refine aa (vX rfl rfl (show _ = ((dZ g.clock : Nat) : Int) by unfold dZ; split <;> omega)) ?_;exact ae ap
theorem MM {b l m} : bF (SC [(b, 0, l ++ m)]) b 0 l := fun j v hj => by
 have hlt : j < l.length := by rcases QaD j l.length with q | q
                               · exact q
                               rw [Qbl q] at hj; cases hj
 exact jB (k := 0) (j := j) rfl (by rw [QaB hlt]; exact hj)
theorem sh (hk : g.clock < 1000000000) : sQ W0 139 [pV b] (di b (z, g) :: R) (iQ (dZ g.clock)) (di b (z, g) :: R) :=
  FR fun a c => iH (BY W0 _ b z g _ hk) fun v B d => by
 obtain ⟨rfl, rfl⟩ := d;exact ⟨_, ⟨rfl, rfl⟩, eD rfl rfl⟩
theorem si (f : g.c.rl.length = 16) k ck x y w : sQ W0 138 [pV b, iQ k, iQ ck, wV x, wV y, wV w] (di b (z, g) :: pt z.r (cI g.c.rl g.c.pc) :: R) (.tuple #[]) (di b (z, { g with es := pX g.es ⟨k, ck, x, y, w, g.c.rl⟩ }) :: pt z.r (cI g.c.rl g.c.pc) :: R) := by
 refine FR fun a c => ?_;have j := JZ (e := ⟨k, ck, x, y, w, g.c.rl⟩) f;refine kS func138 ntmps138 rfl rfl ?_;refine aQ (aY (ac rfl (aM rfl) (ac rfl (ik rfl) ?_)));refine ac rfl (cD rfl mr rfl Ce rfl (by first | exact Qac _ | rfl)) ?_;refine ac rfl (cg G5 rfl (aJ rfl)) ?_;refine ac rfl (xe lE rfl) (ac rfl (nt rfl rfl) (aP (aH ?_)));refine aD rfl (fun m => ?_) fun m => ?_;refine eV [(z.r, 0, _)] 23 mixed rfl (bL bE) (fun d => ?_);refine aj 0 4 d ?_;refine aj 5 8 d ?_;refine fP (is := [4, 13]) (by kernel_rfl) rfl ⟨?_, ?_, trivial⟩;refine dL (dP (aF (aJ rfl))) ?_; clear d;rintro _ _ ⟨rfl, rfl⟩;refine ⟨aV, fun d => ?_⟩;refine bG 13 (dP (aF (aJ rfl))) fun d => ?_;refine aj 14 2 d ?_;refine az 16 d (gK vm nY rfl (MM) (by rw [Qav, f])) ?_;refine az 17 d (EI f rfl rfl rfl rfl rfl rfl) ?_;refine lN 18 (by kernel_rfl) rfl rfl (j0 lE qe zy rfl (fR rfl (by simp [f]) iG) rfl (by decide) (by decide) (by decide)) rfl ?_; clear d;rintro _ _ ⟨l, rfl, rfl⟩;refine ⟨aV, fun d => ?_⟩;refine bX 19 (eW (sz := 21) (by_ := 96) (info := Tryz.t208) lE (by kernel_rfl) rfl rfl rfl rfl (by decide) rfl rfl eK (by simp [f]) (by simp [fy, wV, Value.oneCell']) (by simp only [maxLen]; omega) (by omega)) ?_; clear d;rintro _ _ ⟨h, i, rfl, rfl⟩;refine ⟨aV, fun d => ?_⟩;refine aj 20 2 d ?_;refine cj 22 (iJ (by exact rfl : (ke z g (.slice a g.es.length c)).set 41 (.slice h (g.es.length + 1) i) = ke z g (.slice h (g.es.length + 1) i))) fun d => ?_;refine gC ?_;refine bK (.inr rfl) .nil ?_;rw [pX, Qad (by omega)];exact ⟨_, ⟨rfl, rfl⟩, eD (g := { g with es := g.es ++ [⟨k, ck, x, y, w, g.c.rl⟩] }) (by simp [j]) (by simp)⟩;skip;refine dL (dP (aF (aJ rfl))) ?_; clear d;rintro _ _ ⟨rfl, rfl⟩;refine ⟨aV, fun d => ?_⟩;refine aj 14 2 d ?_;refine az 16 d (gK vm nY rfl (MM) (by rw [Qav, f])) ?_;refine az 17 d (EI f rfl rfl rfl rfl rfl rfl) ?_;refine fP (is := [4, 18]) (by kernel_rfl) rfl ⟨?_, ?_, trivial⟩;refine dL (dP (aF (aJ rfl))) ?_; clear d;rintro _ _ ⟨rfl, rfl⟩;refine ⟨aV, fun d => ?_⟩;refine lN 18 (by kernel_rfl) rfl rfl (j0 lE qe zy rfl (fR rfl (by simp [f]) iG) rfl (by decide) (by decide) (by decide)) rfl ?_; clear d;rintro _ _ ⟨l, rfl, rfl⟩;refine ⟨aV, fun d => ?_⟩;refine bX 19 (eW (sz := 21) (by_ := 96) (info := Tryz.t208) lE (by kernel_rfl) rfl rfl rfl rfl (by decide) rfl rfl eK (by simp [f]) (by simp [fy, wV, Value.oneCell']) (by simp only [maxLen]; omega) (by omega)) ?_; clear d;rintro _ _ ⟨h, i, rfl, rfl⟩;refine ⟨aV, fun d => ?_⟩;refine aj 20 2 d ?_;refine cj 22 (iJ (by exact rfl : (ke z g (.slice a g.es.length c)).set 41 (.slice h (g.es.length + 1) i) = ke z g (.slice h (g.es.length + 1) i))) fun d => ?_;refine gC ?_;refine bK (.inr rfl) .nil ?_;rw [pX, Qad (by omega)];exact ⟨_, ⟨rfl, rfl⟩, eD (g := { g with es := g.es ++ [⟨k, ck, x, y, w, g.c.rl⟩] }) (by simp [j]) (by simp)⟩;skip;refine mD rfl rfl (j0 lE qe zy rfl (fR rfl (by simp [f]) iG) rfl (by decide) (by decide) (by decide)) rfl ?_; clear d;rintro _ _ ⟨l, rfl, rfl⟩;refine ⟨aV, fun d => ?_⟩;refine bG 4 (dP (aF (aJ rfl))) fun d => ?_
 refine bX 19 (eW (sz := 21) (by_ := 96) (info := Tryz.t208) lE (by kernel_rfl) rfl rfl rfl rfl (by decide) rfl rfl eK (by simp [f]) (by simp [fy, wV, Value.oneCell']) (by simp only [maxLen]; omega) (by omega)) ?_; clear d;rintro _ _ ⟨h, i, rfl, rfl⟩;refine ⟨aV, fun d => ?_⟩;refine aj 20 2 d ?_;refine cj 22 (iJ (by exact rfl : (ke z g (.slice a g.es.length c)).set 41 (.slice h (g.es.length + 1) i) = ke z g (.slice h (g.es.length + 1) i))) fun d => ?_;refine aK ?_;refine bK (.inr rfl) .nil ?_;rw [pX, Qad (by omega)];exact ⟨_, ⟨rfl, rfl⟩, eD (g := { g with es := g.es ++ [⟨k, ck, x, y, w, g.c.rl⟩] }) (by simp [j]) (by simp)⟩;refine aw ?_;refine bK (.inr rfl) .nil ?_;rw [pX, Qab (by omega)];exact ⟨_, ⟨rfl, rfl⟩, eD rfl rfl⟩
abbrev BZ (b : Nat) (z : Rz) (g : Gu) (R : List HP) : List HP := di b (z, g) :: pt z.r (cI g.c.rl g.c.pc) :: pt z.c (d9 g.c.cs z.i) :: R
theorem vf (d : CpOk g.c) (hk : g.clock < 1000000000) cause tval (k : cause < 4294967296) (l : tval < 4294967296) : sQ W0 154 [pV b, wV cause, wV tval] (BZ b z g R) (iQ (fX g cause tval).1) (BZ b z (fX g cause tval).2 R) := by
 obtain ⟨m, e⟩ : ∃ t, (dm g.c.cs 1 != 0) = t := ⟨_, rfl⟩
 have h : dm g.c.cs 1 = 0 ↔ m = false := by rw [← e]; simp
 rw [fX];refine am func154 ntmps154 ?_;refine aa (aF (mq fun _ => rfl)) ?_;refine aa (aF (aJ (lW d.r.len))) ?_;refine aa (aF (mq fun _ => rfl)) ?_;refine ah (ao call218 (Ms z.c d.cs)) ?_;rw [e];refine ai (fun j => ?_) fun j => ?_;rw [Qad (h.2 (by simpa using j))];refine pB (b := b) fun a c => ?_;refine aw ?_;refine av (iJ (by exact rfl : (ke z g (.slice a g.es.length c)).set 43 (.bool true) = ke z (fg g) (.slice a g.es.length c))) ?_;refine dr (B := di b (z, fg g) :: pt z.r (cI g.c.rl g.c.pc) :: pt z.c (d9 g.c.cs z.i) :: R) (eD rfl rfl) ?_;refine aw ?_;refine ah (ao qf (sh W0 _ b z (fg g) hk)) ?_;refine ah (cA tW (si W0 _ b z (fg g) d.r.len 6 ((dZ g.clock : Nat) : Int) cause tval g.c.pc)) ?_;exact ae ap;rw [Qab (fun q => by have := h.1 q; simp_all)];refine pB (b := b) fun a c => ?_;refine bc [b] 15 fun f => ?_;refine aj 0 11 f ?_;refine bG 11 (ao call214 (Mt z.c g.c.pc cause tval d.cs d.pc k l)) fun f => ?_;refine aj 12 2 f ?_;refine cj 14 (du (by rw [nS d.r.len]; decide) (pz d.r.len)) fun f => ?_;refine aK ?_;refine dr (B := di b (z, uX g cause tval) :: pt z.r (cI g.c.rl (dm g.c.cs 1)) :: pt z.c (d9 (m8 g.c.cs g.c.pc cause tval) z.i) :: R) (eD rfl rfl) ?_;refine aw ?_;refine ah (ao qf (sh W0 _ b z (uX g cause tval) hk)) ?_;refine ah (cA tW (si W0 _ b z (uX g cause tval) d.r.len 1 ((dZ g.clock : Nat) : Int) cause tval g.c.pc)) ?_;exact ae ap
end
abbrev C0 (b : Nat) (z : Rz) (g : Gu) (d : Nat) (fr : List aE) (pg : List Pl) (R : List HP) : List HP := BZ b z g (eB z.v z.ps z.pm d fr pg R)
section
variable (W0 : World) (R : List HP) (b : Nat) (z : Rz) (g : Gu) (d : Nat) (fr : List aE) (pg : List Pl)
theorem FT (h : Pgs pg) (hF : cC fr) (hc : CpOk g.c) (hk : g.clock < 1000000000) e (he : EfOk e) (hx : e.k = 2) : sQ W0 157 [pV b, .agg (cq e).toArray] (C0 b z g d fr pg R) (iQ (px g fr pg e).1) (C0 b z (px g fr pg e).2 d (wF g fr pg e.addr e.width e.val) pg R) := by
 obtain ⟨F, m⟩ : ∃ F, pu g fr pg e.addr e.width 2 = F := ⟨_, rfl⟩
 obtain ⟨n, j⟩ : ∃ f, wF g fr pg e.addr e.width e.val = f := ⟨_, rfl⟩
 rw [px, m, j];refine am func157 ntmps157 ?_;refine bA fun o => ?_;refine aa (aF (mq fun _ => rfl)) ?_;refine ah (ao GU (BN z.c hc.cs)) ?_;refine bi fun s => ?_;refine av aB ?_;refine aD rfl (fun t => ?_) fun t => ?_;refine au 1 ?_;refine pB (b := b) fun a c => ?_;refine bc [b, o, s] 13 fun l => ?_;refine aj 0 11 l ?_;refine bX 11 (cK call228 (a3f z.v z.ps z.pm d fr pg h hF (iu g.c.cs) (gY g.c.cs) (!e8 g.c.cs) e.addr he.addr e.width e.val he.val)) ?_; clear l;rintro _ u ⟨rfl, p⟩;obtain rfl := p.symm;rw [show lQ fr pg (iu g.c.cs) (gY g.c.cs) (!e8 g.c.cs) e.addr e.width 2 = F from m, show lR fr pg (iu g.c.cs) (gY g.c.cs) (!e8 g.c.cs) e.addr e.width e.val = n from j];refine ⟨aV, fun l => ?_⟩;refine aj 12 1 l ?_;refine aK ?_;refine dr (B := di b (z, bZ g) :: pt z.r (cI g.c.rl g.c.pc) :: pt z.c (d9 g.c.cs z.i) :: pt o (ag (cq e) 276) :: eB z.v z.ps z.pm d n pg R) (eD (g := bZ g) rfl rfl) ?_;refine aw ?_;refine ai (fun q => ?_) fun q => ?_;refine aa (bD (d8 F)) ?_;refine aa (qj rfl rfl (d8 _)) ?_;refine aa (cY rfl rfl (d8 _)) ?_;refine ah (cK wZ (vf W0 _ b z (bZ g) hc hk (rf 5 F) e.addr (dU _) he.addr)) ?_;refine ae ?_;rw [Qad q];exact ap;refine pB (b := b) (z := z) (g := bZ g) fun a c => ?_;refine bc [b, o] 9 fun l => ?_;refine aj 0 8 l ?_;refine cj 8 (du (by rw [nS hc.r.len]; decide) (pz hc.r.len)) fun l => ?_;refine aK ?_;refine ae ?_;rw [Qab q];exact ⟨_, ⟨rfl, rfl⟩, eD (g := iO (bZ g) e.pc) rfl rfl⟩;omega
theorem FU (h : Pgs pg) (hF : cC fr) (hc : CpOk g.c) (hk : g.clock < 1000000000) e (he : EfOk e) (hx : e.k = 1) : sQ W0 157 [pV b, .agg (cq e).toArray] (C0 b z g d fr pg R) (iQ (pw g fr pg e).1) (C0 b z (pw g fr pg e).2 d fr pg R) := by
 obtain ⟨F, n⟩ : ∃ F, pu g fr pg e.addr e.width 1 = F := ⟨_, rfl⟩
 obtain ⟨w, j⟩ : ∃ w, pr g fr pg e.addr e.width 1 = w := ⟨_, rfl⟩
 have s : w < 4294967296 := by rw [← j]; exact uY hF
 have o : hJ (e.d : Int) = true := by have := he.d; simp only [hJ, Qai]; omega
 rw [pw, n, j];refine am func157 ntmps157 ?_;refine bA fun m => ?_;refine aa (aF (mq fun _ => rfl)) ?_;refine ah (ao GU (BN z.c hc.cs)) ?_;refine bi fun t => ?_;refine av aB ?_;refine aD rfl (fun u => ?_) fun u => ?_;omega;refine aw ?_;refine pB (b := b) fun a c => ?_;refine bc [b, m, t] 15 fun f => ?_;refine aj 0 9 f ?_;refine bX 9 (cK call152 (LE z.v z.ps z.pm d fr pg h hF (iu g.c.cs) (gY g.c.cs) (!e8 g.c.cs) e.addr he.addr e.width 1)) ?_; clear f;rintro _ x ⟨rfl, l⟩;obtain rfl := l.symm;rw [show lQ fr pg (iu g.c.cs) (gY g.c.cs) (!e8 g.c.cs) e.addr e.width 1 = F from n, show pp fr pg (iu g.c.cs) (gY g.c.cs) (!e8 g.c.cs) e.addr e.width 1 = w from j];refine ⟨aV, fun f => ?_⟩;refine aj 10 5 f ?_;refine aK ?_;refine dr (B := di b (z, bZ g) :: pt z.r (cI g.c.rl g.c.pc) :: pt z.c (d9 g.c.cs z.i) :: pt m (ag (cq e) 276) :: eB z.v z.ps z.pm d fr pg R) (eD (g := bZ g) rfl rfl) ?_;refine aw ?_;refine aD rfl (fun p => ?_) fun p => ?_;refine au 4 ?_;refine aa (bD (d8 F)) ?_;refine aa (qj rfl rfl (d8 _)) ?_;refine aa (cY rfl rfl (d8 _)) ?_;refine ah (cK wZ (vf W0 _ b z (bZ g) hc hk (rf 4 F) e.addr (dU _) he.addr)) ?_;refine ae ?_;rw [Qad p];exact ap;refine au 2 ?_;refine dw (fun _ : Unit => True) (fun _ => [(0, pV b), (3, pV m), (7, wV (if e.signed then oD w e.width else w))]) (fun _ => di b (z, bZ g) :: pt z.r (cI g.c.rl g.c.pc) :: pt z.c (d9 g.c.cs z.i) :: pt m (ag (cq e) 276) :: eB z.v z.ps z.pm d fr pg R) ?_ ?_;refine au 6 ?_;refine ai (fun q => ?_) fun q => ?_;refine ah (aC call229 (a5z w s e.width)) ?_;refine dD () ?_ ?_ ?_;trivial
 · rw [Qad q]
   repeat (first | exact bC | refine bq rfl ?_)
 exact IO;refine dD () ?_ ?_ ?_;trivial
 · rw [Qab q]
   repeat (first | exact bC | refine bq rfl ?_)
 exact IO;intro _ _;rw [Qab p];obtain ⟨y, A⟩ : ∃ y, (if e.signed then oD w e.width else w) = y := ⟨_, rfl⟩
 rw [A];refine pB (b := b) (z := z) (g := bZ g) fun a c => ?_;refine bc [b, m] 8 fun f => ?_;refine aj 0 7 f ?_;refine bX 7 (ao zI (wI z.r y e.d hc.r.len)) ?_; clear f;rintro _ x ⟨rfl, l⟩;obtain rfl := l.symm;rw [Qad o, Qad o, Qaf];refine ⟨aV, fun f => ?_⟩;refine aK ?_;refine bc [b, m] 9 fun f => ?_;refine aj 0 8 f ?_;refine cj 8 (du (by rw [nS (by unfold je; split <;> simp [hc.r.len])]; decide) (pz (by unfold je; split <;> simp [hc.r.len]))) fun f => ?_;refine aK ?_;refine ae ?_;exact ⟨_, ⟨rfl, rfl⟩, eD (g := Fp (bZ g) e.d y e.pc) rfl rfl⟩
end
end
section
structure LRel (ls : List Li) (now : Int) (L : List Nat) : Prop where
  ok : VOk ls now
  m : ∀ n, (ls.getD n default).m = false
  p : ∀ n, (ls.getD n default).p = 0
  mem : ∀ n, n ∈ L ↔ n < 8 ∧ (ls.getD n default).w = true
  inc : L.Pairwise fun a b => (ls.getD a default).s < (ls.getD b default).s
theorem z4 n : (List.replicate 8 (default : Li)).getD n default = default := by
 simp only [Qau, List.getElem?_replicate];split <;> rfl
theorem LRel.new : LRel (List.replicate 8 default) 0 [] := by
 refine ⟨⟨rfl, QbY _, fun n _ => by rw [z4]; decide, fun n k _ _ _ h => by rw [z4] at h; cases h⟩, fun n => by rw [z4]; rfl, fun n => by rw [z4]; rfl, fun n => ?_, List.Pairwise.nil⟩;rw [z4];exact ⟨fun h => (Qcj h).elim, fun h => by cases h.2⟩
section
variable {ls : List Li} {now : Int} {L : List Nat}
theorem LRel.lt (h : LRel ls now L) : ∀ x ∈ L, x < 8 := fun x a => ((h.mem x).1 a).1
theorem LRel.nd (h : LRel ls now L) : L.Nodup := h.inc.imp fun {a b} q e => by subst e; omega
theorem MN : ∀ (n : Nat) (l : List Nat), l.Nodup → (∀ x ∈ l, x < n) → l.length ≤ n
 | 0, l, _, h => by
  rcases l with _ | ⟨a, l⟩;exact Qao _;have := h a (Qbj ..); omega
 | n + 1, l, b, h => by
  have c := MN n (l.erase n) (b.erase n) fun x d => by
   have := (b.mem_erase_iff).1 d;have := h x this.2;omega
  rw [List.length_erase] at c;split at c <;> omega
theorem LRel.few (h : LRel ls now L) : L.length ≤ 8 := MN 8 L h.nd h.lt
theorem LRel.best (h : LRel ls now L) : jK ls = L.head? := by
 rcases L with _ | ⟨a, t⟩;unfold jK;rw [List.head?_nil, QbU];intro n g c;simp only [tF, jw, Qar] at c;exact absurd ((h.mem n).2 ⟨by simpa using g, c.1.1⟩) Qcj;have d := (h.mem a).1 (Qbj ..);refine LS h.ok d.1 (by rw [jw, d.2, h.m]; rfl) fun k i f => ?_;simp only [jw, Qar] at f;have b := (h.mem k).2 ⟨i, f.1⟩;unfold re;rw [h.p, h.p];rcases QaQ.1 b with e | e;subst e; exact QbY _;have := (Qbi.1 h.inc).1 k e;omega
theorem MO {n : Nat} : oH L n = true ↔ n ∈ L := by
 unfold oH;rw [Qbo]
 exact ⟨fun ⟨x, a, e⟩ => by
  have : x = n := by have := Qba.1 e; omega
  exact this ▸ a, fun a => ⟨n, a, by simp⟩⟩
theorem LRel.raise (h : LRel ls now L) (g : now < 1000000) {n} (o : n < 8) : LRel (ml ls now n) (k8 ls now n) (nT L n) := by
 have r : gH (n : Int) = true := by rw [gH, Qai]; omega
 have u := h.ok.nn;have i : 0 ≤ now + 1 ∧ now + 1 < 10000000000000000000 := by omega
 rw [ml, k8, nT, r, Qbe];by_cases q : (ls.getD n default).w = true;rw [MO.2 ((h.mem n).2 ⟨o, q⟩), dif_neg (fun c => by rw [q] at c; cases c.1), Qab (fun c => by rw [q] at c; cases c)];simpa using h;have q : (ls.getD n default).w = false := by simpa using q
 have f : n ∉ L := fun c => by have := ((h.mem n).1 c).2; rw [q] at this; cases this
 have v : oH L (n : Int) = false := by
  cases e : oH L (n : Int) with
  | false => rfl
  | true => exact absurd (MO.1 e) f
 rw [v, dif_pos ⟨q, i⟩, Qad q];have d : ∀ k, k ≠ n → (ls.set n ⟨true, (ls.getD n default).m, (ls.getD n default).p, now + 1, i⟩).getD k default = ls.getD k default := fun k s => uV s;have j : (ls.set n ⟨true, (ls.getD n default).m, (ls.getD n default).p, now + 1, i⟩).getD n default = ⟨true, (ls.getD n default).m, (ls.getD n default).p, now + 1, i⟩ := wE (by rw [h.ok.len]; exact o);have t : ∀ k ∈ L, k ≠ n := fun k s e => f (e ▸ s);refine ⟨h.ok.set (by omega) (QbY _) (fun _ => .inl (by show now < now + 1; omega)), fun k => ?_, fun k => ?_, fun k => ?_, ?_⟩;by_cases e : k = n;subst e; rw [j]; exact h.m k;rw [d k e]; exact h.m k;by_cases e : k = n;subst e; rw [j]; exact h.p k;rw [d k e]; exact h.p k;simp only [Bool.not_false, QbJ, Qaf, QaZ, Qbh];by_cases e : k = n;subst e; rw [j]; simp [o];rw [d k e, ← h.mem k]; simp [e];simp only [Bool.not_false, QbJ, Qaf];rw [List.pairwise_append];refine ⟨List.Pairwise.imp_of_mem (fun {a b} l g q => ?_) h.inc, List.pairwise_singleton _ _, fun a l b g => ?_⟩;rw [d a (t a l), d b (t b g)]; exact q;obtain rfl := Qbh.1 g;rw [d a (t a l), j];have := h.ok.le a (h.lt a l);show _ < now + 1;omega
theorem LRel.took (h : LRel ls now L) : LRel (mm ls) now (sf L) := by
 unfold mm;rw [h.best];rcases L with _ | ⟨a, t⟩;exact h;have i := (h.mem a).1 (Qbj ..);have b := Qbw.1 h.nd;have l : sf (a :: t) = t := by
  rw [sf, Qab (List.cons_ne_nil _ _), iC];show (a :: t).filter (fun x => ((x : Nat) : Int) != ((a : Nat) : Int)) = t;rw [List.filter_cons_of_neg (by simp)];refine QaV.2 fun x d => QbL.2 fun e => ?_;have : x = a := by omega
  exact b.1 (this ▸ d)
 rw [l];show LRel (s7 ls a) now t;have c : ∀ k, k ≠ a → (s7 ls a).getD k default = ls.getD k default := fun k f => uV f;have g : (s7 ls a).getD a default = ⟨false, (ls.getD a default).m, (ls.getD a default).p, (ls.getD a default).s, (ls.getD a default).hs⟩ := wE (by rw [h.ok.len]; exact i.1);have j : ∀ k ∈ t, k ≠ a := fun k f e => b.1 (e ▸ f);refine ⟨h.ok.set (QbY _) (h.ok.le a i.1) (fun q => by cases q), fun k => ?_, fun k => ?_, fun k => ?_, ?_⟩;by_cases e : k = a;subst e; rw [g]; exact h.m k;rw [c k e]; exact h.m k;by_cases e : k = a;subst e; rw [g]; exact h.p k;rw [c k e]; exact h.p k;by_cases e : k = a;subst e; rw [g]; simp [b.1];rw [c k e, ← h.mem k]; simp [e];refine List.Pairwise.imp_of_mem (fun {x y} d n q => ?_) (Qbi.1 h.inc).2;rw [c x (j x d), c y (j y n)]; exact q
end
structure TRel (x : Tm) (T : List (Int × Int)) : Prop where
  eq : T = x.ti.map fun y => (y.i, y.d)
  len : x.us.length = 4
  us : ∀ k : Nat, k < 4 → (x.us.getD k false = true ↔ ∃ y ∈ x.ti, y.i = (k : Int))
  nd : (x.ti.map (·.i)).Nodup
  id : ∀ y ∈ x.ti, 0 ≤ y.i ∧ y.i < 4
  nn : 0 ≤ x.now
theorem FV : ∀ (n : Nat) (l : List Int), l.Nodup → (∀ x ∈ l, 0 ≤ x ∧ x < n) → l.length ≤ n
 | 0, l, _, h => by
  rcases l with _ | ⟨a, l⟩;exact Qao _;have := h a (Qbj ..); omega
 | n + 1, l, b, h => by
  have c := FV n (l.erase (n : Int)) (b.erase _) fun x d => by
   have := (b.mem_erase_iff).1 d;have := h x this.2;omega
  rw [List.length_erase] at c;split at c <;> omega
theorem MP : ∀ {l : List TIt}, (l.map (·.i)).Nodup → ∀ y ∈ l, ∀ z ∈ l, y.i = z.i → y = z
 | [], _, y, d, _, _, _ => (Qcj d).elim
 | a :: l, h, y, d, z, g, e => by
  rw [QaL, Qbw] at h;rcases QaQ.1 d with b | b <;> rcases QaQ.1 g with c | c;rw [b, c];subst b; exact absurd (by rw [e]; exact QbO (f := fun y : TIt => y.i) c) h.1;subst c; exact absurd (by rw [← e]; exact QbO (f := fun y : TIt => y.i) b) h.1;exact MP h.2 y b z c e
section
variable {x : Tm} {T : List (Int × Int)}
theorem TRel.new : TRel ⟨[false, false, false, false], 0, []⟩ [] := ⟨rfl, rfl, (fun k a => by
 have : k = 0 ∨ k = 1 ∨ k = 2 ∨ k = 3 := by omega
 rcases this with rfl | rfl | rfl | rfl <;> exact ⟨(fun h => by cases h), (fun q => by obtain ⟨_, h, _⟩ := q; cases h)⟩), QcY, (fun _ h => (Qcj h).elim), QbY _⟩
theorem TRel.ids (h : TRel x T) : T.map (·.1) = x.ti.map (·.i) := by rw [h.eq, Qcg]; rfl
theorem TRel.ndT (h : TRel x T) : (T.map (·.1)).Nodup := by rw [h.ids]; exact h.nd
theorem TRel.lenT (h : TRel x T) : T.length = x.ti.length := by rw [h.eq, Qav]
theorem TRel.few (h : TRel x T) : T.length ≤ 4 := by
 have := FV 4 _ h.nd (fun i a => by
  obtain ⟨y, b, rfl⟩ := Qbc.1 a
  exact h.id y b)
 rw [Qav] at this;rw [h.lenT]; exact this
theorem TRel.has (h : TRel x T) {k : Nat} (hk : k < 4) : jn T k = x.us.getD k false := by
 rw [Qag, h.us k hk, h.eq];unfold jn;rw [List.any_map, Qbo];exact ⟨fun ⟨y, a, e⟩ => ⟨y, a, Qba.1 e⟩, fun ⟨y, a, e⟩ => ⟨y, a, Qba.2 e⟩⟩
theorem TRel.full (h : TRel x T) (t : 4 ≤ T.length) : l7 x.us = none := by
 have f : ∀ k : Nat, k < 4 → x.us.getD k false = true := fun k r => by
  cases q : x.us.getD k false with
  | true => rfl
  | false =>
   have g : ((k : Int)) ∉ x.ti.map (·.i) := fun c => by
    obtain ⟨y, j, e⟩ := Qbc.1 c;rw [(h.us k r).2 ⟨y, j, e⟩] at q; cases q
   have := FV 4 ((k : Int) :: x.ti.map (·.i)) (Qbw.2 ⟨g, h.nd⟩) (fun i l => by
    rcases QaQ.1 l with rfl | l;omega;obtain ⟨y, j, rfl⟩ := Qbc.1 l
    exact h.id y j)
   rw [QaJ, Qav, ← h.lenT] at this;omega
 obtain ⟨a, b, c, d, e⟩ : ∃ a b c d, x.us = [a, b, c, d] := by
  have s := h.len
  match h2 : x.us, s with
  | [a, b, c, d], _ => exact ⟨a, b, c, d, rfl⟩
 have m := f 0 (by decide);have n := f 1 (by decide);have o := f 2 (by decide);have p := f 3 (by decide);rw [e] at m n o p ⊢;simp at m n o p;subst m; subst n; subst o; subst p;rfl
theorem TRel.free (h : TRel x T) (h4 : T.length < 4) : ∃ k, k < 4 ∧ l7 x.us = some k ∧ BV T = k ∧ jn T k = false := by
 have hex : ∃ k : Nat, k < 4 ∧ jn T (k : Int) = false ∧ ∀ j : Nat, j < k → jn T (j : Int) = true := by
  cases q0 : jn T ((0 : Nat) : Int) with
  | false => exact ⟨0, by decide, q0, fun j hj => absurd hj (Qcc j)⟩
  | true =>
  cases q1 : jn T ((1 : Nat) : Int) with
  | false => exact ⟨1, by decide, q1, fun j hj => by obtain rfl : j = 0 := by omega
                                                     exact q0⟩
  | true =>
  cases q2 : jn T ((2 : Nat) : Int) with
  | false => exact ⟨2, by decide, q2, fun j hj => by rcases (by omega : j = 0 ∨ j = 1) with rfl | rfl <;> assumption⟩
  | true =>
  cases q3 : jn T ((3 : Nat) : Int) with
  | false => exact ⟨3, by decide, q3, fun j hj => by rcases (by omega : j = 0 ∨ j = 1 ∨ j = 2) with rfl | rfl | rfl <;> assumption⟩
  | true => exact (FJ h4 fun k hk => by rcases (by omega : k = 0 ∨ k = 1 ∨ k = 2 ∨ k = 3) with rfl | rfl | rfl | rfl <;> assumption).elim
 obtain ⟨k, hk, hno, hall⟩ := hex;refine ⟨k, hk, M4 (by rw [h.len]; exact hk) (fun j hj => ?_) ?_, FK hno 4 0 (QaK _) (by omega) fun j _ q => hall j q, hno⟩;rw [← h.has (by omega)]; exact hall j hj;rw [← h.has hk]; exact hno
theorem TRel.armE (h : TRel x T) d : yO x d = v9 T d := by
 rw [yO, v9];split;rfl;by_cases a : 4 ≤ T.length;rw [Qad a, Qad (h.full a)];obtain ⟨k, _, e, _⟩ := h.free (by omega);rw [Qab a, e, Qab (by simp)]
theorem TRel.armI (h : TRel x T) d : yP x d = vd T d := by
 rw [yP, vd];split;rfl;by_cases a : 4 ≤ T.length;rw [Qad a, h.full a]; rfl;obtain ⟨k, _, e, b, _⟩ := h.free (by omega);rw [Qab a, e, b]; rfl
theorem TRel.arm (h : TRel x T) d (w : x.now < 1000000) : TRel (tG x d) (ve T d) := by
 have r := h.nn;rw [tG, ve];by_cases p : d < 0;rw [dif_neg (by omega), Qad p]; exact h;rw [dif_pos (by omega), Qab p];by_cases g : 4 ≤ T.length;rw [Qad g, h.full g]; exact h;obtain ⟨k, l, e, s, m⟩ := h.free (by omega);rw [Qab g, e, s];have n : ∀ y ∈ x.ti, y.i ≠ (k : Int) := fun y f c => by
  have := (h.us k l).2 ⟨y, f, c⟩;rw [← h.has l, m] at this; cases this
 refine ⟨by rw [h.eq]; simp, by rw [Qam]; exact h.len, fun j t => ?_, ?_, fun y f => ?_, by show 0 ≤ x.now + 1; omega⟩;by_cases c : j = k;subst c;refine ⟨fun _ => ⟨_, List.mem_append_right _ (Qbh.2 rfl), rfl⟩, fun _ => ?_⟩;simp [List.getD, h.len, l];have u : (x.us.set k true).getD j false = x.us.getD j false := by
  simp only [Qau];rw [QaP (fun q => c q.symm)]
 show (x.us.set k true).getD j false = true ↔ _;rw [u, h.us j t];refine ⟨fun ⟨y, f, q⟩ => ⟨y, List.mem_append_left _ f, q⟩, fun ⟨y, f, q⟩ => ?_⟩;rcases QaZ.1 f with f | f;exact ⟨y, f, q⟩;obtain rfl := Qbh.1 f;exact absurd q (by show ((k : Int)) ≠ j; omega);show (((x.ti ++ [_]) : List TIt).map fun y => y.i).Nodup;rw [QaG, Qbp];refine ⟨h.nd, by simp, fun a v b o => ?_⟩;obtain ⟨y, f, rfl⟩ := Qbc.1 v;have o : b = (k : Int) := by simpa using o
 rw [o]; exact n y f;rcases QaZ.1 f with f | f;exact h.id y f;obtain rfl := Qbh.1 f;show 0 ≤ ((k : Int)) ∧ ((k : Int)) < 4;omega
theorem TRel.fireN (h : TRel x T) now : nh x now = ni T now := by
 rw [nh, ni, h.eq, List.filter_map, Qav];rfl
theorem TRel.fire (h : TRel x T) now : TRel (tI x now) (pY T now) := by
 refine ⟨by rw [pY, h.eq, List.filter_map]; rfl, by show (jk _ _).length = 4; rw [tH]; exact h.len, fun k g => ?_, ?_, fun y a => h.id y (QaC.1 a).1, h.nn⟩;have d : k < x.us.length := by rw [h.len]; exact g
 have j : (jk x.us (x.ti.filter (l8 now))).getD k false = (x.us.getD k false && !((x.ti.filter (l8 now)).any fun z => z.i == (k : Int))) := by
  have := Fo x.us (x.ti.filter (l8 now)) k d;simp only [Qau];rw [QaR (by rw [tH]; exact d), QaR d];simpa using this
 show (jk x.us (x.ti.filter (l8 now))).getD k false = true ↔ ∃ y ∈ x.ti.filter fun y => !l8 now y, y.i = (k : Int);rw [j, Qar, h.us k g, Bool.not_eq_true', Qcw];constructor;rintro ⟨⟨y, a, e⟩, f⟩;refine ⟨y, QaC.2 ⟨a, ?_⟩, e⟩
 cases q : l8 now y with
 | false => rfl
 | true => exact absurd (Qba.2 e) (f y (QaC.2 ⟨a, q⟩))
 rintro ⟨y, a, e⟩;have a := QaC.1 a;refine ⟨⟨y, a.1, e⟩, fun z b c => ?_⟩;have b := QaC.1 b;have := MP h.nd y a.1 z b.1 (e.trans (Qba.1 c).symm);subst this;rw [b.2] at a;exact absurd a.2 (by decide);exact (QcC _ Qby).nodup h.nd
end
end
section
open Go.RowKit
abbrev C1 (b : Nat) (z : Rz) (g : Gu) (L : List Nat) (T : List (Int × Int)) (R : List HP) : List HP := BZ b z g (dO z.vic L :: dF z.tim T :: R)
section
variable (W0 : World) (R : List HP) (b : Nat) (z : Rz) (g : Gu) (L : List Nat) (T : List (Int × Int))
theorem a5A (D : CpOk g.c) (hk : g.clock < 1000000000) (W : LRel g.ls g.ln L) (X : g.ln < 1000000) (Q : TRel g.tm T) : sP W0 151 [pV b] (C1 b z g L T R) (fun v B => ∃ L' T', v = .bool (fY (iX g)).1 ∧ B = C1 b z (fY (iX g)).2 L' T' R ∧ LRel (fY (iX g)).2.ls (fY (iX g)).2.ln L' ∧ TRel (fY (iX g)).2.tm T') := by
 obtain ⟨ob, H⟩ : ∃ b, oo g.c.cs = b := ⟨_, rfl⟩
 obtain ⟨K, Y⟩ : ∃ K, nh g.tm ((dZ g.clock : Nat) : Int) = K := ⟨_, rfl⟩
 have hF : ni T ((dZ g.clock : Nat) : Int) = K := by rw [← Q.fireN, Y]
 have j := Q.fire ((dZ g.clock : Nat) : Int);obtain ⟨E, I⟩ : ∃ E, pY T ((dZ g.clock : Nat) : Int) = E := ⟨_, rfl⟩
 rw [I] at j;have x2 := W.few;have Z := W.raise X (n := 7) (by decide);obtain ⟨q, p⟩ : ∃ q, iX g = q := ⟨_, rfl⟩
 have F : q.c = g.c := by rw [← p]
 have J : q.halted = g.halted := by rw [← p]
 have M : q.es = g.es := by rw [← p]
 have N : q.clock = g.clock := by rw [← p]
 have O : q.tm = tI g.tm ((dZ g.clock : Nat) : Int) := by rw [← p]
 rw [p, fY, F, H];refine kS func151 ntmps151 rfl rfl ?_;refine aQ (aY (ac rfl (bj rfl) (aP (aH ?_))));refine dw (fun h : List Nat => LRel q.ls q.ln h) (fun _ => [(0, pV b)]) (fun h => di b (z, g) :: pt z.r (cI g.c.rl g.c.pc) :: pt z.c (d9 g.c.cs z.i) :: dO z.vic h :: dF z.tim E :: R) ?_ ?_;refine aQ ?_;refine pB (b := b) fun a c => ?_;refine bc [b] 9 fun e => ?_;refine bu 0 rfl rfl rfl e (aM rfl) ?_;refine bu 1 rfl rfl rfl e (ik rfl) ?_;refine bu 2 rfl rfl rfl e (cD rfl mr rfl No rfl (by first | exact Qac _ | rfl)) ?_;refine bu 3 rfl rfl rfl e (cg isAgg96 rfl (cp (k := 0) rfl rfl)) ?_;refine bu 4 rfl rfl rfl e (aM rfl) ?_;refine bG 5 (ao qf (BY W0 _ b z g _ hk)) fun e => ?_;refine bX 6 (ao call211 (a5d z.tim T Q.few Q.ndT ((dZ g.clock : Nat) : Int))) ?_; clear e;rintro _ B_ ⟨fa, fc, rfl, o⟩;obtain rfl := o.symm;rw [hF, I];refine ⟨aV, fun e => ?_⟩;refine aj 7 2 e ?_;refine aK ?_;refine aD rfl (fun c1 => ?_) fun c1 => ?_;refine aY ?_;refine ac rfl (aM rfl) (ac rfl (ik rfl) ?_);refine ac rfl (cD rfl mr rfl G9 rfl (by first | exact Qac _ | rfl)) ?_;refine ac rfl (cg N8 rfl (aJ rfl)) ?_;refine aG rfl (iZ call52 rfl (My z.vic L (by omega) 7)) ?_;rintro _ B_ ⟨rfl, o⟩;obtain rfl := o.symm;refine aP (aH ?_);refine bY (nT L 7) ?_ (he := ?_);rw [← p];show LRel (if nh g.tm ((dZ g.clock : Nat) : Int) = 0 then g.ls else ml g.ls g.ln 7) (if nh g.tm ((dZ g.clock : Nat) : Int) = 0 then g.ln else k8 g.ls g.ln 7) (nT L 7);rw [Y, Qab (by omega), Qab (by omega)];exact Z;exact eD rfl rfl;refine aw ?_;refine bY L ?_ (he := ?_);rw [← p];show LRel (if nh g.tm ((dZ g.clock : Nat) : Int) = 0 then g.ls else ml g.ls g.ln 7) (if nh g.tm ((dZ g.clock : Nat) : Int) = 0 then g.ln else k8 g.ls g.ln 7) L;rw [Y, Qad (by omega), Qad (by omega)];exact W;exact eD rfl rfl;intro h d;clear p;obtain ⟨qc, S, U, s, u, w, A, qh, C, x3, x4, f⟩ := q;dsimp only at F J M N O d ⊢;subst F; subst M; subst N; subst J;rw [← O] at j;have x0 := d.few;have G := d.best;refine pB (b := b) fun a c => ?_;refine aw ?_;refine ah (ao call212 (a4W z.c D.cs)) ?_;rw [H];refine aD rfl (fun c3 => ?_) fun c3 => ?_;refine au 7 ?_;refine ae ?_;rw [Qab (by simpa using c3)];exact ⟨_, ⟨h, E, rfl, rfl, d, j⟩, eD rfl rfl⟩;refine au 3 ?_;rw [Qad (by simpa using c3)];refine aY (ac rfl (aM rfl) (ac rfl (ik rfl) ?_));refine ac rfl (cD rfl mr rfl G9 rfl (by first | exact Qac _ | rfl)) ?_;refine ac rfl (cg N8 rfl (aJ rfl)) ?_;refine aG rfl (iZ call213 rfl (a46 z.vic h (by omega) d.lt)) ?_;rintro _ B_ ⟨rfl, o⟩;obtain rfl := o.symm;obtain ⟨m, hm⟩ : ∃ m, h.getD 0 0 = m := ⟨_, rfl⟩
 obtain ⟨y, P⟩ : ∃ y, decide (h ≠ []) = y := ⟨_, rfl⟩
 rw [hm, P, G];have x1 := d.took;refine aw ?_;refine aD rfl (fun V => ?_) fun V => ?_;refine au 1 ?_;obtain ⟨n, t, rfl⟩ : ∃ n t, h = n :: t := by
  rcases h with _ | ⟨x, l⟩;rw [← P] at V; exact absurd V (by decide);exact ⟨x, l, rfl⟩
 obtain rfl : n = m := hm;obtain rfl : y = true := by rw [← P]; exact Qah (List.cons_ne_nil n t)
 rw [List.head?_cons];dsimp only;have x5 := d.lt n (Qbj ..);refine aw ?_;refine aa (aF (aJ (lW D.r.len))) ?_;refine aa (bD (cZ (by omega))) ?_;refine aa (ee (256 + n)) ?_;refine bc [b] 14 fun e => ?_;refine aj 0 10 e ?_;refine bG 10 (ao call214 (Mt z.c g.c.pc (256 + n) 0 D.cs D.pc (by omega) (by decide))) fun e => ?_;refine aj 11 2 e ?_;refine cj 13 (du (by rw [nS D.r.len]; decide) (pz D.r.len)) fun e => ?_;refine aK ?_;refine dr (B := di b (z, ⟨⟨g.c.rl, dm g.c.cs 1, m8 g.c.cs g.c.pc (256 + n) 0⟩, S, U, s, mm u, w, A, g.halted, C, g.clock, g.es, f⟩) :: pt z.r (cI g.c.rl (dm g.c.cs 1)) :: pt z.c (d9 (m8 g.c.cs g.c.pc (256 + n) 0) z.i) :: dO z.vic (sf (n :: t)) :: dF z.tim E :: R) (eD rfl rfl) ?_;refine aw ?_;refine ah (ao qf (sh W0 _ b z ⟨⟨g.c.rl, dm g.c.cs 1, m8 g.c.cs g.c.pc (256 + n) 0⟩, S, U, s, mm u, w, A, g.halted, C, g.clock, g.es, f⟩ hk)) ?_;refine ah (cA tW (si W0 _ b z ⟨⟨g.c.rl, dm g.c.cs 1, m8 g.c.cs g.c.pc (256 + n) 0⟩, S, U, s, mm u, w, A, g.halted, C, g.clock, g.es, f⟩ D.r.len 3 ((dZ g.clock : Nat) : Int) (256 + n) 0 g.c.pc)) ?_;refine ae ?_;exact ⟨_, ⟨_, E, rfl, rfl, x1, j⟩, IO⟩;refine aw ?_;refine ae ?_;obtain rfl : h = [] := by
  rcases h with _ | ⟨x, l⟩;rfl;exact absurd (by rw [← P]; exact Qah (List.cons_ne_nil x l)) V
 obtain rfl : y = false := by rw [← P]; rfl
 rw [List.head?_nil];dsimp only;exact ⟨_, ⟨sf [], E, rfl, rfl, (by rw [sf, Qad rfl]; exact d), j⟩, eD (g := ⟨g.c, S, U, s, u, w, A, g.halted, C, g.clock, g.es, f⟩) rfl rfl⟩
end
end
end Go.Proofs.YtofillmoflhijaaGreatDoor
