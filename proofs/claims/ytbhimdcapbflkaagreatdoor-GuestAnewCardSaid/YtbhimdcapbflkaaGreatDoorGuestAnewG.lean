/-
  Part 7 of the proof of GuestAnew: rules, and walks of functions. Conditions: none.
-/
import Derived.Test.YtbhimdcapbflkaaGreatDoorGuestAnewF
namespace Go.Proofs.YtbhimdcapbflkaaGreatDoor
open Go.Proofs.Tryz
set_option linter.unusedSimpArgs false
set_option linter.unusedVariables false
set_option maxRecDepth 20000
set_option linter.defProp false
set_option synthInstance.maxSize 8192
set_option synthInstance.maxHeartbeats 2000000
variable {W0 : World} {R : List HP}
section
open Go.RowKit
theorem yY {F n P fn tmps R R'} (hR : ∀ e w, R e w → R' e w) :
    ∀ (ds : List Deferred) (u : FrameMode) (w : World), LeavesInM F n P fn tmps R ds u w → LeavesInM F n P fn tmps R' ds u w
 | [], .returning, w, h => by
  obtain ⟨v, h1, h2⟩ := (show ∃ v, (results fn tmps).run P w = .ok v w ∧ R (.returned v) w from h)
  exact ⟨v, h1, hR _ _ h2⟩
 | [], .panicking c, w, h => hR _ _ h
 | [], .run, w, h => h
 | d :: ds, u, w, h => by
  obtain ⟨hu, h⟩ := h;refine ⟨hu, ?_⟩;rcases h with ⟨r, w', h1, h2, h3⟩ | ⟨h0, fv, cap, f, args, h1, h2, h3, h4⟩;exact .inl ⟨r, w', h1, h2, yY hR ds u w' h3⟩;refine .inr ⟨h0, fv, cap, f, args, h1, h2, h3, h4.mono ?_⟩;intro e u' w' he
  cases e with
  | returned v => exact yY hR ds _ _ he
  | panicked c => exact yY hR ds _ _ he
  | outgrown => exact hR _ _ he
theorem a6p {P} {o : Oper} {a K K' Q Q'} (hk : ∀ a w, K a w → K' a w) (hq : ∀ e a w, Q e a w → Q' e a w) :
    ∀ {r : Result Next}, o.upon P a K Q r → o.upon P a K' Q' r
 | .ok (.value v) w, h => hk _ _ h
 | .ok .skip w, h => hk _ _ h
 | .ok (.defer d) w, h => hk _ _ h
 | .ok (.enter f args) w, h => Calls.mono (show Calls P f args w _ from h) (by
     intro e w' he
     cases e with
     | returned v => exact hk _ _ he
     | panicked c => exact hq _ _ _ he
     | outgrown => exact Qdd he fun a h => Qdd h fun w h => ⟨a, w, hq _ _ _ h⟩)
 | .ok (.row row args) w, h => Rows.mono (show Rows P row args w _ from h) (fun v w' he => hk _ _ he)
 | .halt (.panic v) w, h => hq _ _ _ h
theorem a6q {rd P} {o : Oper} {a K K' Q Q'} (hk : ∀ a w, K a w → K' a w) (hq : ∀ e a w, Q e a w → Q' e a w) :
    ∀ {r : Result Next}, o.uponIn (FW rd) 0 P a K Q r → o.uponIn (FW rd) 0 P a K' Q' r
 | .ok (.value v) w, h => hk _ _ h
 | .ok .skip w, h => hk _ _ h
 | .ok (.defer d) w, h => hk _ _ h
 | .ok (.enter f args) w, h => ⟨h.1, CallsIn.mono h.2 (by
     intro e w' he
     cases e with
     | returned v => exact hk _ _ he
     | panicked c => exact hq _ _ _ he
     | outgrown => exact Qdd he fun a h => Qdd h fun w h => ⟨a, w, hq _ _ _ h⟩)⟩
 | .ok (.row row args) w, h => ⟨h.1, RowsIn.mono h.2 (fun v w' he => hk _ _ he)⟩
 | .ok (.round l f tmps assign body) w, h => ⟨h.1, RoundIn.mono h.2 (by
     intro e w' he
     cases e with
     | returned v => exact hk _ _ he
     | panicked c => exact hq _ _ _ he
     | outgrown => exact Qdd he fun a h => Qdd h fun w h => ⟨a, w, hq _ _ _ h⟩)⟩
 | .halt (.panic v) w, h => hq _ _ _ h
theorem BX {rd P ops Q Q'} (b : ∀ e a w, Q e a w → Q' e a w) : ∀ (l : List Oper) (a : Act) (w : World), bZ rd P ops Q l a w → bZ rd P ops Q' l a w
 | [], a, w, h => b _ _ _ h
 | o :: l, a, w, h => by
  simp only [bZ] at h ⊢;split at h
  rename_i c
  rw [Qad c];rcases h with h | h;exact .inl (a6p (fun a w k => BX b l a w k) b h);exact .inr ⟨h.1, a6q (fun a w k => BX b l a w k) b h.2⟩
  rename_i c
  rw [Qaa c];exact BX b l _ _ h
theorem a6r {P W0 w fn Post Post' A} (hO : Own W0 w A) (hP : ∀ v B, Post' v B → ∃ B', Post v B' ∧ Ent (B ++ A) B') :
    ∀ (ex : Exit) (a : Act) (w' : World), lJ P w fn Post' ex a w' → lJ P W0 fn Post ex a w' := by
 have hR : ∀ (e : Ending) (w' : World), (∃ v B, e = .returned v ∧ Post' v B ∧ Own w w' B) → ∃ v B, e = .returned v ∧ Post v B ∧ Own W0 w' B := by
  rintro e w' ⟨v, B, rfl, hp, hO'⟩;obtain ⟨B', h1, h2⟩ := hP v B hp;exact ⟨v, B', rfl, h1, (hO.step hO').ent h2⟩
 intro ex a w' h
 cases ex with
 | normal => exact yY hR _ _ _ h
 | ret => exact yY hR _ _ _ h
 | exit id => exact h
 | goto l => exact h
 | panic c => exact h
 | outgrown => exact h
theorem N5 {P W0 N ops l} {y : Code} {fn Post} Post' {e A}
    (hP : ∀ v B, Post' v B → ∃ B', Post v B' ∧ Ent (B ++ A) B') (h : ∀ W, Own W0 W A → av W N (bZ none P ops (Exit.then (y.wpR none P (lJ P W fn Post')) (lJ P W fn Post')) l) e []) :
    av W0 N (bZ none P ops (Exit.then (y.wpR none P (lJ P W0 fn Post)) (lJ P W0 fn Post)) l) e A := by
 intro a w hF hO;have hm := a6r (P := P) (fn := fn) hO hP;refine BX ?_ _ _ _ (h w hO a w hF (Own.refl w));intro ex a' w' hq
 cases ex with
 | normal => exact Code.wpIn_mono hm hq
 | ret => exact hm .ret a' w' hq
 | exit id => exact hm (.exit id) a' w' hq
 | goto l => exact hm (.goto l) a' w' hq
 | panic c => exact hm (.panic c) a' w' hq
 | outgrown => exact hm .outgrown a' w' hq
theorem GOk.more {z g g' N} (h : GOk z g N) (a : CpOk g'.c) (b : g'.clock ≤ g.clock + 1) (d : g'.bud ≤ g.bud + 6) (e : g'.ln ≤ g.ln + 2) (f : g'.tm.now ≤ g.tm.now + 1) : GOk z g' (N + 1) :=
  ⟨a, h.i, by have := h.clk; omega, by have := h.bud; omega, by have := h.ln; omega, by have := h.tn; omega⟩
theorem a6s {rl e w} (h : RlOk rl) (b : e < 4294967296) (c : w < 4294967296) : RlOk (qL rl e w) := by
 have a := (h.set 1 e b).set 2 w c;rw [j5, j5, Qaa (by decide), Qaa (by decide)] at a;exact a
theorem yZ {g a b} (h : CpOk g.c) (d : a < 4294967296) (e : b < 4294967296) : CpOk (fD g a b).2.c := by
 unfold fD;split;exact h;exact h.enter d e
theorem s6 g a b : (fD g a b).2.bud = g.bud ∧ (fD g a b).2.clock = g.clock := by unfold fD; split <;> exact ⟨rfl, rfl⟩
theorem a6t {g fr pg e} (h : CpOk g.c) (b : EfOk e) (a : cB fr) : CpOk (ip g fr pg e).1.2.c ∧ cB (ip g fr pg e).2 ∧ (ip g fr pg e).2.length = fr.length ∧ (ip g fr pg e).1.2.bud ≤ g.bud + 3 ∧ (ip g fr pg e).1.2.clock = g.clock := by
 unfold ip
 split
 unfold pp
 split
 exact ⟨yZ h (dK _) b.addr, a, rfl, by rw [(s6 _ _ _).1]; exact Qam _, (s6 _ _ _).2⟩
 refine ⟨⟨h.r.set _ _ ?_, b.pc, h.cs⟩, a, rfl, Qam _, rfl⟩
 split
 exact a4P (uP a)
 exact uP a
 split
 unfold pq
 split
 exact ⟨yZ h (dK _) b.addr, Mi a, Mj, by rw [(s6 _ _ _).1]; exact Qam _, (s6 _ _ _).2⟩
 exact ⟨⟨h.r, b.pc, h.cs⟩, Mi a, Mj, Qam _, rfl⟩
 split
 exact ⟨yZ h (by have := b.cause; omega) b.tval, a, rfl, by rw [(s6 _ _ _).1]; omega, (s6 _ _ _).2⟩
 split; · exact ⟨⟨h.r, b.pc, h.cs⟩, a, rfl, by show g.bud ≤ _; omega, rfl⟩
 split; · exact ⟨⟨h.r, b.pc, h.cs⟩, a, rfl, by show g.bud ≤ _; omega, rfl⟩
 split; · exact ⟨h, a, rfl, by show g.bud ≤ _; omega, rfl⟩
 exact ⟨h, a, rfl, by show g.bud ≤ _; omega, rfl⟩
theorem a6u {i g fr pg} (h : CpOk g.c) (e : i < 4) (a : cB fr) : CpOk (jo i g fr pg).1.2.c ∧ cB (jo i g fr pg).2 ∧ (jo i g fr pg).2.length = fr.length ∧ (jo i g fr pg).1.2.bud ≤ g.bud + 6 ∧ (jo i g fr pg).1.2.clock = g.clock := by
 unfold jo;split;exact ⟨yZ h (dK _) h.pc, a, rfl, by rw [(s6 _ _ _).1]; show g.bud + 3 ≤ _; omega, (s6 _ _ _).2⟩;split;grind [yZ, uP, s6];have b := E1 (id := i) (clock := dR g.clock) (i := fq (pj g fr pg g.c.pc 4 0)) h (DU _).2.1 e;obtain ⟨f, j, k, d, l⟩ := a6t (g := jG (dG g) (jU i (dR g.clock) (fq (pj g fr pg g.c.pc 4 0)) g.c).2) (fr := fr) (pg := pg) b.2 b.1 a;exact ⟨f, j, k, by have d : _ ≤ g.bud + 3 + 3 := d; omega, l⟩
theorem a6v {g} (h : CpOk g.c) : CpOk (fF g).2.c ∧ (fF g).2.clock = g.clock ∧ (fF g).2.bud = g.bud ∧ (fF g).2.ln = g.ln ∧ (fF g).2.tm = g.tm := by
 unfold fF;split
 cases q : jF g.ls with
 | none => exact ⟨h, rfl, rfl, rfl, rfl⟩
 | some n =>
  have := (yD q).1;exact ⟨h.enter (by omega) (by decide), rfl, rfl, rfl, rfl⟩
 grind
theorem a6w g : (iS g).ln ≤ g.ln + 1 := by
 grind [FF, jZ]
theorem BY {i g fr pg} (h : CpOk g.c) (f : i < 4) (b : cB fr) : CpOk (eR i g fr pg).1.2.c ∧ cB (eR i g fr pg).2 ∧ (eR i g fr pg).2.length = fr.length ∧ (eR i g fr pg).1.2.bud ≤ g.bud + 6 ∧ (eR i g fr pg).1.2.clock = g.clock + 1 ∧ (eR i g fr pg).1.2.ln ≤ g.ln + 1 ∧ (eR i g fr pg).1.2.tm.now = g.tm.now := by
 have d := a6w (iZ g)
 unfold eR
 split; · exact ⟨h, b, rfl, by show g.bud ≤ _; omega, rfl, by show g.ln ≤ _; omega, rfl⟩
 have a := a6v (g := iS (iZ g)) h
 split
 exact ⟨a.1, b, rfl, by rw [a.2.2.1]; show g.bud ≤ _; omega, by rw [a.2.1], by rw [a.2.2.2.1]; exact d, by rw [a.2.2.2.2]; rfl⟩
 obtain ⟨j, k, l, e, m⟩ := a6u (i := i) (fr := fr) (pg := pg) a.1 f b
 obtain ⟨p, n, o⟩ := FG i (fF (iS (iZ g))).2 fr pg
 exact ⟨j, k, l, by rw [a.2.2.1] at e; exact e, by rw [m, a.2.1], by rw [n, a.2.2.2.1]; exact d, by rw [o, a.2.2.2.2]; rfl⟩
theorem GMem.saved {i fr fr' pg po} (h : GMem i ⟨fr, pg, po⟩) (l : cB fr') (c : fr'.length = fr.length) (m : ∀ f, f < fr.length → (∀ t, aK pg t = true → (bF pg t).1 ≠ f) → fr'.getD f [] = fr.getD f []) : GMem i ⟨fr', pg, po⟩ := by
 refine ⟨l, h.po, h.pg, h.len.trans c.symm, by show PlOk fr'.length pg; rw [c]; exact h.pl, h.own, h.all, h.far, fun f d e => ?_⟩;have a : f < fr.length := by have := h.len; dsimp only at this d; omega
 dsimp only;rw [m f a fun t q g => ?_];exact h.nul f d e;have j := q;simp only [aK, Qao] at j;obtain ⟨k, rfl, n⟩ := kM j.1;rcases QaC k 8 with b | b;have := h.own k b q;dsimp only at this e;rw [g, Qae, e] at this;have := (Qcy this).2; cases this;have := h.far k b q;dsimp only at this e;rw [g, Qae, e] at this;exact this rfl
theorem N6 {fr a o w} {x f : Nat} (h : a ≠ (f : Int)) : (eJ fr a o w x).getD f [] = fr.getD f [] := by
 unfold eJ;split
 rename_i q
 simp only [kL, Qao] at q;obtain ⟨k, rfl, b⟩ := qq q.1;rw [Qae];exact FH (fun e => h (by rw [e]));rfl
theorem a6x {fr pg on root user va w} {x f : Nat} (h : ∀ t, aK pg t = true → (bF pg t).1 ≠ f) : (lU fr pg on root user va w x).getD f [] = fr.getD f [] := by
 unfold lU;split;split
 rename_i q
 obtain ⟨c, d, e, a, g, b, i⟩ := LM q;rw [b];exact N6 (h _ (LN a));rfl;rfl
theorem a6y {fr pg pa w} {x f : Nat} (h : ∀ t, aK pg t = true → (bF pg t).1 ≠ f) : (kN fr pg pa w x).getD f [] = fr.getD f [] := by
 grind [kN, N6, LS]
theorem a6z {g fr pg e} {f : Nat} (h : ∀ t, aK pg t = true → (bF pg t).1 ≠ f) : (ip g fr pg e).2.getD f [] = fr.getD f [] := by
 grind [ip, a6x]
theorem a6A {i g fr pg} {f : Nat} (h : ∀ t, aK pg t = true → (bF pg t).1 ≠ f) : (eR i g fr pg).2.getD f [] = fr.getD f [] := by
 grind [eR, jo, a6z]
theorem GMem.step {i j x g} (h : GMem i x) (a : CpOk g.c) (b : j < 4) : GMem i ⟨(eR j g x.fr x.pg).2, x.pg, x.po⟩ := by
 obtain ⟨_, d, e, _⟩ := BY (i := j) (pg := x.pg) a b h.fr;exact GMem.saved (fr := x.fr) h d e fun f _ q => a6A q
theorem GMem.vsave {i x pa w v} (h : GMem i x) : GMem i ⟨kN x.fr x.pg pa w v, x.pg, x.po⟩ :=
  GMem.saved (fr := x.fr) h (IV h.fr).1 (IV h.fr).2 fun f _ q => a6y q
theorem N7 {B A R} : Ent (B ++ (A ++ R)) R := by
 rw [← QaJ];exact (Ent.ofPerm QaX).trans ent_app
abbrev mI (c : Cfg) (i : Nat) (ws : List Nat) : Mm := hZ c i ws (List.replicate (bI c) cm) (dv c (bI c))
abbrev z4 (b1 b2 b3 : Nat) : Mm := mI (ka 2 0 b1 b2 b3) 0 [1310798, 40]
def BZ (b1 b2 b3 : Nat) : (Int × Gu) × List aB := eR 0 g0 (z4 b1 b2 b3).fr (z4 b1 b2 b3).pg
def C0 (b1 b2 b3 : Nat) : (Int × Gu) × List aB := eR 0 (BZ b1 b2 b3).1.2 (BZ b1 b2 b3).2 (z4 b1 b2 b3).pg
def z6 (b1 b2 b3 : Nat) : (Int × Gu) × List aB := eR 0 (C0 b1 b2 b3).1.2 (C0 b1 b2 b3).2 (z4 b1 b2 b3).pg
theorem a6B b1 b2 b3 : (BZ b1 b2 b3).1.1 = 0 := by kernel_rfl
theorem a6C b1 b2 b3 : (C0 b1 b2 b3).1.1 = 4 := by kernel_rfl
theorem a6D b1 b2 b3 : (z6 b1 b2 b3).1.1 = 5 := by kernel_rfl
theorem a6E b1 b2 b3 : (z6 b1 b2 b3).1.2.c.rl = [0, 5, 0, 0, 0, 0, 0, 0, 0, 0, 0, 0, 0, 0, 0, 0] := by kernel_rfl
theorem a6F b1 b2 b3 : (z6 b1 b2 b3).1.2.c.pc = 8 := by kernel_rfl
theorem a6G b1 b2 b3 : (z6 b1 b2 b3).1.2.clock = 3 := by kernel_rfl
theorem C1 : CpOk g0.c := ⟨⟨rfl, fun x a => by
 have := List.eq_of_mem_replicate a
 omega⟩, by decide, ⟨rfl, by decide⟩⟩
theorem GOk.new {z} (a : z.i < 4) : GOk z g0 0 := ⟨C1, a, Qam _, Qam _, by decide, by decide⟩
theorem GOk.step {z g N fr pg} (h : GOk z g N) (a : cB fr) : GOk z (eR z.i g fr pg).1.2 (N + 1) := by
 obtain ⟨b, _, _, d, e, f, j⟩ := BY (i := z.i) (pg := pg) h.c h.i a;exact h.more b (by omega) d (by omega) (by omega)
theorem a6H (U : ∀ A, bC (aQ W0 A) 1 0 j9) (V : ∀ A, bC (aQ W0 A) 0 0 kX) : sQ W0 15 [] R (.bool true) R := by
 refine am func15 ntmps15 ?_;refine aD rfl (aC OM (FO 0 0 (by decide) (by decide))) ?_;rintro _ X ⟨j, k, l, rfl, t⟩;obtain rfl := t.symm;rw [show l6 0 = 2 from rfl, show pR 0 0 = 0 from rfl];refine dt (js tH aW a8B rfl rfl rfl rfl rfl (by decide) (by decide)) fun M => ?_;refine gi (b := M) (o' := ag ([1310798, 40].flatMap iP) 38) rfl ?_;refine N5 (fun v _ => v = .bool true) (fun v B Y => ⟨R, ⟨Y, rfl⟩, N7 (A := [_, _, _, _])⟩) fun W H => ?_;have I := My 2 (by decide) (by decide) 0 (by decide) (by decide) j k l;have P : CfK W (ka 2 0 j k l) := FP (H.ent Ent.drop);have Q : ∀ A, cG (aQ W A) (some ⟨M, 0, none⟩) 1 iP [1310798, 40] := ux H (rB (b := M) (fun _ => rfl) rfl);have u := xV H (U _);have w := xV H (V _);clear H;have N := FQ I (i := 0) (show 0 < 2 by decide) [1310798, 40];refine aD rfl (aC ON (N4 W _ (ka 2 0 j k l) P I 0 (show 0 < 2 by decide) (some ⟨M, 0, none⟩) 2 [1310798, 40] Q (by decide) (by decide) (by decide))) ?_;rintro _ X ⟨G, z, wg, wb, rfl, Z, y, x0, t⟩;obtain rfl := t.symm;have C : GOk z g0 0 := GOk.new (by omega);obtain ⟨x, O⟩ : ∃ x, z4 j k l = x := ⟨_, rfl⟩
 rw [show hZ (ka 2 0 j k l) 0 [1310798, 40] (List.replicate (bI (ka 2 0 j k l)) cm) (dv (ka 2 0 j k l) (bI (ka 2 0 j k l))) = x from O] at N ⊢;obtain ⟨p, m⟩ : ∃ s, eR z.i g0 x.fr x.pg = s := ⟨_, rfl⟩
 obtain ⟨q, n⟩ : ∃ s, eR z.i p.1.2 p.2 x.pg = s := ⟨_, rfl⟩
 obtain ⟨o, D⟩ : ∃ s, eR z.i q.1.2 q.2 x.pg = s := ⟨_, rfl⟩
 have S : p = BZ j k l := by rw [← m, y, ← O]; rfl
 have T : q = C0 j k l := by rw [← n, y, S, ← O]; rfl
 have e3 : o = z6 j k l := by rw [← D, y, T, ← O]; rfl
 have k1 : p.1.1 = 0 := by grind [a6B]
 have k2 : q.1.1 = 4 := by grind [a6C]
 have k3 : o.1.1 = 5 := by grind [a6D]
 have kr : o.1.2.c.rl = [0, 5, 0, 0, 0, 0, 0, 0, 0, 0, 0, 0, 0, 0, 0, 0] := by grind [a6E]
 have kp : o.1.2.c.pc = 8 := by grind [a6F]
 have kk : o.1.2.clock = 3 := by grind [a6G]
 clear S T e3;have E : cB p.2 := by rw [← m]; exact (BY (i := z.i) (pg := x.pg) C.c (by omega) N.fr).2.1
 have F : GOk z p.1.2 1 := by rw [← m]; exact C.step N.fr
 have J : cB q.2 := by rw [← n]; exact (BY (i := z.i) (pg := x.pg) F.c (by omega) E).2.1
 have K : GOk z q.1.2 2 := by rw [← n]; exact F.step E
 have L : GOk z o.1.2 3 := by rw [← D]; exact K.step J
 refine aw ?_;refine iF rfl rfl rfl (fun g => ?_) fun g => ?_;refine au 2 ?_;refine ah (xS H9 rfl (Bz W _ G z g0 0 x.fr x.pg u w C (by decide) N.fr)) ?_;rw [m, k1];refine iF rfl rfl rfl (fun h => ?_) fun h => ?_;refine au 2 ?_;refine ah (xS H9 rfl (Bz W _ G z p.1.2 1 p.2 x.pg u w F (by decide) E)) ?_;rw [n, k2];refine iF rfl rfl rfl (fun a => ?_) fun a => ?_;refine au 2 ?_;refine ah (xS H9 rfl (Bz W _ G z q.1.2 2 q.2 x.pg u w K (by decide) J)) ?_;rw [D, k3];refine iF rfl rfl rfl (fun d => ?_) fun d => ?_;refine au 2 ?_;refine ah (cq Ha (BC W _ G z o.1.2 L.c.r.len)) ?_;refine ae rfl (IN Cg aW mw rfl rfl rfl (by decide) (by rw [kr]; rfl)) ?_;refine cI rfl rfl (ae rfl (ix rfl rfl) (ae rfl (m5 rfl rfl) (ae rfl (aM rfl) ?_)));refine iF rfl rfl rfl (fun e => ?_) fun e => ?_;refine au 2 ?_;refine jO (cq call21 (Mr W _ G z o.1.2 L.c.r.len)) ?_;rw [kp];refine cI rfl rfl (ae rfl (ix rfl rfl) (ae rfl (m5 rfl rfl) (ae rfl (aM rfl) ?_)));refine iF rfl rfl rfl (fun f => ?_) fun f => ?_;refine au 2 ?_;refine ah (ap OO (FJ W _ G z o.1.2)) ?_;rw [kk];refine ac ?_;exact ⟨_, rfl, ent_refl⟩
 first | exact absurd rfl f | exact absurd (by decide) f | simp at f
 first | exact absurd rfl e | exact absurd (by decide) e | simp at e
 first | exact absurd rfl d | exact absurd (by decide) d | simp at d
 first | exact absurd rfl a | exact absurd (by decide) a | simp at a
 first | exact absurd rfl h | exact absurd (by decide) h | simp at h
 first | exact absurd rfl g | exact absurd (by decide) g | simp at g
structure Ak where
  k : Int
  n : Int
  w : Nat
@[reducible] def re (a : Ak) : List Value := [.int .i64 a.k, .int .i64 a.n, wV a.w]
abbrev raiseG (g : Gu) (n : Int) : Gu := { g with ls := if gr n then mr g.ls g.ln n.toNat else g.ls, ln := if gr n then jZ g.ls g.ln n.toNat else g.ln }
abbrev G7 (g : Gu) (n : Int) : Gu := { g with tm := tq g.tm n }
abbrev G8 (g : Gu) (n : Int) (w : Nat) : Gu := { g with c := ⟨if gO n then j5 g.c.rl n.toNat w else g.c.rl, g.c.pc, g.c.cs⟩ }
abbrev a6I (x : Mm) (n : Int) (w : Nat) : Mm := ⟨kN x.fr x.pg (u32 n) 4 w, x.pg, x.po⟩
attribute [local irreducible] cr ci
def l7 (x0 x : Mm) : Prop := x.po.length = x0.po.length ∧ ∀ f, (d6 x.po f).1 = (d6 x0.po f).1
theorem l7.rfl' x : l7 x x := ⟨rfl, fun _ => rfl⟩
theorem l7.par {x0 x i} (h : l7 x0 x) : lY i x.po = lY i x0.po := by
 unfold lY;rw [h.1];exact Qai List.length (Qcv fun f _ => by rw [h.2 f])
theorem l7.set {x0 x} (h : l7 x0 x) {f i : Nat} {b c fr pg} (a : f < x.po.length) (d : d6 x.po f = ((i : Int), b)) : l7 x0 ⟨fr, pg, x.po.set f (i, c)⟩ := by
 refine ⟨by rw [Qap]; exact h.1, fun k => ?_⟩;dsimp only;rw [jV a];split
 rename_i e; rw [e, ← h.2 f, d]
 exact h.2 k
theorem l7.take {x0 x} (h : l7 x0 x) {i p} : l7 x0 (lz i p x) := by
 unfold lz;split
 cases e : bN x.po i with
 | nil => exact h
 | cons f l =>
  have a := kB.1 (show f ∈ bN x.po i by rw [e]; simp);exact h.set a.1 a.2
 exact h
theorem a6J i p x : (lz i p x).fr = x.fr := by
 unfold lz;split;cases bN x.po i <;> rfl;rfl
theorem l7.gave {x0 x} (h : l7 x0 x) {i p} (b : GMem i x) : l7 x0 (lB i p x) := by
 unfold lB;split
 rename_i q
 simp only [Qao] at q;obtain ⟨n, rfl, e⟩ := rZ q.1;obtain ⟨f, c, g, a⟩ := b.at_ q.2;have d := b.own n e q.2;rw [c, Qae] at d;rw [Qae, nh, c, Qae];exact h.set a d;exact h
theorem l7.anew {x0 x} (h : l7 x0 x) {i n ws} (a : GMem i x) (b : i < 16) : l7 x0 (gC i n ws x) := by
 obtain ⟨c, d⟩ := yQ a b 8 (Qam _);obtain ⟨e, g⟩ := yS (who := i) (words := aZ ws n) (x := ⟨(cr i 8 x).fr, (cr i 8 x).po, (cr i 8 x).pg⟩) n;exact ⟨e.trans (c.trans h.1), fun f => (g f).trans ((d f).trans (h.2 f))⟩
theorem GOk.raise {z g N} (h : GOk z g N) n : GOk z (raiseG g n) (N + 1) := by
 refine h.more h.c (Qcx _) (by show g.bud ≤ _; omega) ?_ (by show g.tm.now ≤ _; omega);have := FF g.ls g.ln n.toNat;show (if _ then jZ g.ls g.ln n.toNat else g.ln) ≤ _;split <;> omega
theorem GOk.arm {z g N} (h : GOk z g N) n : GOk z (G7 g n) (N + 1) := by
 refine h.more h.c (Qcx _) (by show g.bud ≤ _; omega) (by show g.ln ≤ _; omega) ?_;show (tq g.tm n).now ≤ _;unfold tq;split;split;exact Qcb _;omega;omega
theorem GOk.setr {z g N} (h : GOk z g N) n {w} (a : w < 4294967296) : GOk z (G8 g n w) (N + 1) := by
 refine h.more ⟨?_, h.c.pc, h.c.cs⟩ (Qcx _) (by show g.bud ≤ _; omega) (by show g.ln ≤ _; omega) (by show g.tm.now ≤ _; omega);show RlOk (if gO n then j5 g.c.rl n.toNat w else g.c.rl);split;exact h.c.r.set _ _ a;exact h.c.r
theorem GOk.answer {z g N e w} (h : GOk z g N) (a : e < 4294967296) (b : w < 4294967296) : GOk z (BB g e w) (N + 1) :=
  h.more ⟨a6s h.c.r a b, by show cQ g.c.pc < _; unfold cQ; exact dK _, h.c.cs⟩ (Qcx _) (by show g.bud ≤ _; omega) (by show g.ln ≤ _; omega) (by show g.tm.now ≤ _; omega)
theorem GOk.halt {z g N} (h : GOk z g N) k a b p : GOk z (oy (hQ g) k a b p) (N + 1) :=
  h.more h.c (Qcx _) (by show g.bud ≤ _; omega) (by show g.ln ≤ _; omega) (by show g.tm.now ≤ _; omega)
theorem GOk.anew {z z' g N} (h : GOk z g N) (a : z'.i < 4) : GOk z' (fe g) (N + 1) :=
  ⟨C1, a, Nat.le_succ_of_le h.clk, QaF _, by show (0 : Int) ≤ _; omega, by show (0 : Int) ≤ _; omega⟩
theorem z8 g a b : (fD g a b).2.qa = g.qa ∧ (fD g a b).2.qb = g.qb ∧ (fD g a b).2.qc = g.qc := by unfold fD; split <;> exact ⟨rfl, rfl, rfl⟩
theorem a6K {i g fr pg} : (eR i g fr pg).1.2.qa = g.qa ∧ (eR i g fr pg).1.2.qb = g.qb ∧ (eR i g fr pg).1.2.qc = g.qc := by
 unfold eR
 split; · exact ⟨rfl, rfl, rfl⟩
 have a : (fF (iS (iZ g))).2.qa = g.qa ∧ (fF (iS (iZ g))).2.qb = g.qb ∧ (fF (iS (iZ g))).2.qc = g.qc := by
  unfold fF
  split
  cases jF (iS (iZ g)).ls <;> exact ⟨rfl, rfl, rfl⟩
  exact ⟨rfl, rfl, rfl⟩
 split; · exact a
 generalize (fF (iS (iZ g))).2 = q at a
 suffices h : (jo i q fr pg).1.2.qa = q.qa ∧ (jo i q fr pg).1.2.qb = q.qb ∧ (jo i q fr pg).1.2.qc = q.qc by rw [h.1, h.2.1, h.2.2]; exact a
 unfold jo
 split; · exact z8 _ _ _
 split; · exact z8 _ _ _
 unfold ip
 split
 unfold pp
 split
 exact z8 _ _ _
 exact ⟨rfl, rfl, rfl⟩
 split
 unfold pq
 split
 exact z8 _ _ _
 exact ⟨rfl, rfl, rfl⟩
 split; · exact z8 _ _ _
 split; · exact ⟨rfl, rfl, rfl⟩
 split; · exact ⟨rfl, rfl, rfl⟩
 split <;> exact ⟨rfl, rfl, rfl⟩
theorem a6L c i ws fr po : l7 ⟨fr, iz, po⟩ (hZ c i ws fr po) := by
 obtain ⟨a, b⟩ := yS (who := i) (words := aZ ws (cT c i).2.1.toNat) (x := ⟨fr, po, iz⟩) (cT c i).2.1.toNat;exact ⟨a, b⟩
end
section
open Go.ChangeShapes Go.WideShapes Go.ChangeAt Go.RowKit
set_option linter.unusedSimpArgs false
set_option linter.unusedVariables false
variable {W : World} {v : Value}
theorem a6M {l : List Value} (h : l.length = 3) : ∃ a b c, l = [a, b, c] := by
 match l, h with
 | [a, b, c], _ => exact ⟨a, b, c, rfl⟩
theorem a6N {fuel l} (h : kK Tryz.prog W fuel 40 l) : ∃ x, l = re x ∧ x.w < 4294967296 := by
 obtain ⟨m, r, d⟩ := P5 NR h;obtain ⟨a, b, c, rfl⟩ := a6M (m.trans (by kernel_rfl));have e := d _ (Qbj ..);have f := d _ (QbJ _ (Qbj ..));have g := d _ (QbJ _ (QbJ _ (Qbj ..)));rw [show Tryz.prog.cellsOf 3 = 1 by kernel_rfl] at e f;rw [show Tryz.prog.cellsOf 38 = 1 by kernel_rfl] at g;obtain ⟨n, i, _⟩ := zT jI e;obtain ⟨o, j, _⟩ := zT jI f;obtain ⟨p, k, q⟩ := IX g;simp at i j k;exact ⟨⟨n, o, p⟩, by rw [i, j, k]; rfl, q⟩
theorem a6O (h : Ty Tryz.prog W 23 v) : ∃ a c, ∃ b, v = .slice a b.length c ∧ b.length < 9223372036854775808 ∧ vp W a 3 re b ∧ ∀ t ∈ b, t.w < 4294967296 := by
 obtain ⟨a, c, e, rfl, k, g, i, j⟩ := HB (f := re) (Q := fun t : Ak => t.w < 4294967296) 3 NM (by kernel_rfl) (by decide) (fun d r h => a6N h) h;exact ⟨a, c, e, rfl, by simp only [maxLen] at g; omega, i, j⟩
theorem a6P {fuel l} (h : kK Tryz.prog W fuel 38 l) : ∃ x, l = iP x ∧ x < 4294967296 := by
 obtain ⟨x, rfl, a⟩ := IX h;exact ⟨x, rfl, a⟩
theorem a6Q (h : Ty Tryz.prog W 22 v) : ∃ a c b, v = .slice a (List.length (α := Nat) b) c ∧ b.length < 9223372036854775808 ∧ b.length ≤ c ∧ vp W a 1 iP b ∧ ∀ x ∈ b, x < 4294967296 := by
 obtain ⟨a, c, b, rfl, e, g, i, j⟩ := HB (f := iP) (Q := fun x => x < 4294967296) 1 tH (by kernel_rfl) (by decide) (fun d r h => a6P h) h;exact ⟨a, c, b, rfl, by simp only [maxLen] at g; omega, e, i, j⟩
end
section
open Go.RowKit
theorem a6R gb z g (b : g.c.rl.length = 16) : sQ W0 51 [pV gb] (pt gb (cH z g) :: pt z.x.r (dD g.c.rl g.c.pc) :: R) (.tuple #[wV (bL g.c.rl 1), .agg #[wV (bL g.c.rl 2), wV (bL g.c.rl 3), wV (bL g.c.rl 4), wV (bL g.c.rl 5)]]) (pt gb (cH z g) :: pt z.x.r (dD g.c.rl g.c.pc) :: R) := by
 obtain ⟨⟨Q, p, q⟩, s, t, u, v, w, y, A, B, C, D, E⟩ := g;dsimp only at b ⊢;obtain ⟨F, G, H, I, J, K, L, M, N, O, d, e, f, l, m, o, rfl⟩ := a1f b;refine lL func51 ntmps51 rfl rfl ?_;refine aO (aX (ae rfl (bA rfl) ?_));refine ez (dx Ch) fun S => ?_;refine aL (aH (aO (aX (ae rfl (aM rfl) (jO (cq Ha (BC W0 _ gb z ⟨⟨[F, G, H, I, J, K, L, M, N, O, d, e, f, l, m, o], p, q⟩, s, t, u, v, w, y, A, B, C, D, E⟩ b)) ?_)))));refine ez (dx O0) fun P => ?_;refine fh (fN rj rfl rfl rfl rfl rfl) ?_;rintro _ _ rfl;refine aL (aH (aO ?_));refine bq [P] 7 fun a => ?_;refine ax 0 a (eW Cg aW rfl rfl (i := 1) rfl (by decide) (by first | exact Qac _ | rfl)) ?_;refine dp 1 rfl rfl rfl a (cu mw rfl (dm (k := 0) rfl rfl)) ?_;refine ax 2 a (Zr (i := 2) (h := 6) (o' := 2) Cg aW rfl rfl rfl rfl rfl (by decide) (by decide) (by decide) rfl) ?_;refine ax 3 a (Zs CK rfl (by decide)) ?_;refine ax 4 a (df (Zt (n := 4) (j := 2) (jN (k := 0) rfl) rfl)) ?_;refine aj 5 1 a ?_;refine cp 6 aF fun a => ?_;refine aJ ?_;exact aV (.cons (aS rfl) (.cons (bi Np Gk rfl rfl) .nil)) ao
section
variable {P : Program} {W0 : World} {A R : List HP} {sz : Nat}
theorem a6S {E m ys f args} (h : bE P W0 f args A (fun v B => ∃ a c, v = .slice a m c ∧ B = osl E sz (.slice a m c) ys :: R)) :
    bE P W0 f args A (fun v B => ∃ a c, v = .slice a m c ∧ xl a ys ∧ B = osl E sz (.slice a m c) ys :: R) := fun w k =>
  (h w k).mono fun e q ⟨v, B, l, ⟨a, c, n, i⟩, j⟩ => by
 refine ⟨v, B, l, ⟨a, c, n, ?_, i⟩, j⟩;subst i;rcases (j.tk (r := osl E sz) (b := .slice a m c)).osl with ⟨d, o, _⟩ | ⟨g, s, p, t, d, _, _, _, _, _⟩;cases d; exact .inl ⟨rfl, o⟩;cases d; exact .inr ⟨g, rfl⟩
theorem a6T {E n c : Nat} {a ys} (f : xl a ys) (b : ys.length = n * sz) (h : 0 < sz) (i : bC (aQ W0 A) (A3 a) 0 ys) : n = 0 ∨ ∃ d e, a = some ⟨d, e, none⟩ ∧ bC (aQ W0 A) d e ys := by
 rcases f with ⟨_, j⟩ | ⟨g, rfl⟩;left;rw [j] at b;rcases Nat.eq_zero_or_pos n with q | q;exact q;have := Nat.mul_pos q h;simp at b; omega;exact .inr ⟨g, 0, rfl, i⟩
end
theorem a6U (l : List It) : fi (l.flatMap qM) = true := by
 induction l with
 | nil => rfl
 | cons x l a => rw [QaQ, fi, List.all_append, Qao]; exact ⟨rfl, a⟩
abbrev KE := dk × jD
@[reducible] def N8 (x : KE) : List Value := [.int .i64 x.1.1, .int .i64 x.1.2, .int .i64 x.2.1, .int .i64 x.2.2.1, .int .i64 x.2.2.2]
def tD (L : List Ln) (T : List It) : List KE := L.map (fun x => (x.k, x.e)) ++ T.map (fun y => (y.key, y.ent))
theorem N9 {L T} : (tD L T).length = L.length + T.length := by simp [tD]
theorem a6V {L T} : (tD L T).flatMap N8 = L.flatMap yo ++ T.flatMap qM := by
 rw [tD, Qbt, List.flatMap_map, List.flatMap_map]; rfl
theorem a6W W0 R bm pv bt bs ps pm d its room now T L fr pg (y : Rep its now T) (z : T.length ≤ room) (A : room ≤ 4) (h : MOk fr pg d L T) :
    bE Tryz.prog W0 9 [.pointer (some ⟨bm, 0, none⟩)] (pt bm (cD pv bt bs) :: aU bt (its, cX room now) :: bG bs L :: pt pv (bW ps pm d) :: R)
      (fun v B => ∃ a c g m o, v = .slice a (tD o m).length c ∧ B = osl 53 5 (.slice a (tD o m).length c) ((tD o m).flatMap N8) :: pt bm (cD pv bt bs) :: aU bt (g, cX room now) :: bG bs o :: pt pv (bW ps pm 0) :: R ∧ Rep g now m ∧ m.length ≤ room ∧ MOk fr pg 0 o m ∧ (d = 0 → o = L)) := by
 refine D3 func9 ntmps9 rfl rfl ?_;refine aO (aX (ae rfl (bA rfl) (aL (aH (aO (aO (aX (ae rfl (aM rfl) (aD rfl (gU zE rfl (wi bm pv bt bs)) ?_)))))))));rintro _ q ⟨rfl, f⟩;obtain rfl := f.symm;refine aL (aH ?_);refine aA rfl ?_ ?_;intro t;exact absurd t (by decide);intro t;refine jd (aH (aO (aX (ae rfl (aM rfl) (aD rfl (lM H3 rfl (F5 bm pv bt bs ps pm d its (.int .i64 room) (.int .i64 now) now room T L fr pg y z A h)) ?_)))));rintro _ q ⟨rfl, i, j, u, f, p, r, w, _, l⟩;subst f;have C := w.ti.len;refine aL (aH (aO ?_));refine fj [(bm, 0, _)] 12 mixed rfl (bQ bH) (fun b => ?_);refine oK 0 rfl rfl (by kernel_rfl) (by kernel_rfl) (by kernel_rfl) rfl b (aM rfl) ?_;refine oK 1 rfl rfl (by kernel_rfl) (by kernel_rfl) (by kernel_rfl) rfl b (kI rfl) ?_;refine oK 2 rfl rfl (by kernel_rfl) (by kernel_rfl) (by kernel_rfl) rfl b (d5 rfl NJ rfl sizeOf151 rfl (by first | exact Qac _ | rfl)) ?_;refine oK 3 rfl rfl (by kernel_rfl) (by kernel_rfl) (by kernel_rfl) rfl b (cu isAgg151 rfl (dm (k := 0) rfl rfl)) ?_;refine oK 5 rfl rfl (by kernel_rfl) (by kernel_rfl) (by kernel_rfl) rfl b (aM rfl) ?_;refine oK 6 rfl rfl (by kernel_rfl) (by kernel_rfl) (by kernel_rfl) rfl b (kI rfl) ?_;refine oK 7 rfl rfl (by kernel_rfl) (by kernel_rfl) (by kernel_rfl) rfl b (d5 rfl NJ rfl sizeOf150 rfl (by first | exact Qac _ | rfl)) ?_;refine oK 8 rfl rfl (by kernel_rfl) (by kernel_rfl) (by kernel_rfl) rfl b (cu isAgg150 rfl (dm (k := 0) rfl rfl)) ?_;refine kl 4 (by kernel_rfl) rfl rfl (gU call66 rfl (a2m bs u (by omega))) rfl ?_; clear b;rintro _ q ⟨H, I, rfl, f⟩;subst f;refine ⟨(bQ bH), fun b => ?_⟩;refine kl 9 (by kernel_rfl) rfl rfl (gU call67 rfl (a6S (KY bt i (.int .i64 room) (.int .i64 now) now j p (by omega)))) rfl ?_; clear b;rintro _ q ⟨D, x, rfl, s, f⟩;subst f;refine ⟨(bQ bH), fun b => ?_⟩;refine kl 10 (by kernel_rfl) rfl rfl (Aw (sz := 5) (by_ := 40) (info := Tryz.t53) wJ (by kernel_rfl) rfl rfl rfl rfl (by decide) rfl rfl (news := j.flatMap qM) (a6T (c := x) (E := 53) s (cJ F0 j) (by decide) (uc (E := 53) (sz := 5) (a := D) (n := j.length) (c := x))) (cJ F0 j) (a6U j) (by simp only [maxLen]; omega) (by omega)) rfl ?_; clear b;rintro _ _ ⟨F, G, rfl, rfl⟩;refine ⟨(bQ bH), fun b => ?_⟩;refine oK 11 rfl rfl (by kernel_rfl) (by kernel_rfl) (by kernel_rfl) rfl b (bA rfl) ?_;refine D5 (by kernel_rfl) ?_; clear b;refine aH (dE (bX (.inl rfl) (.cons (aS rfl) .nil) ?_));refine ⟨_, ⟨F, G, i, j, u, ?_, rfl, p, r, w, fun e => l (by rw [e]; rfl)⟩, ?_⟩;rw [N9]; rfl;rw [N9, a6V]; exact inferInstance
def l8 (x0 x : Mm) : Prop := ∀ t : Nat, 8 ≤ t → aK x.pg t = aK x0.pg t ∧ bF x.pg t = bF x0.pg t
theorem l8.rfl' x : l8 x x := fun _ _ => ⟨rfl, rfl⟩
theorem l8.trans {x y z} (h : l8 x y) (k : l8 y z) : l8 x z := fun t a => ⟨(k t a).1.trans (h t a).1, (k t a).2.trans (h t a).2⟩
theorem Na {pg n p} (a : n < 8) {t : Nat} (b : 8 ≤ t) : aK (dO pg n p) t = aK pg t ∧ bF (dO pg n p) t = bF pg t := by
 unfold dO;split;exact g5 (by omega);exact ⟨rfl, rfl⟩
theorem a6X i p x : l8 x (lz i p x) := fun t a => by
 unfold lz;split
 rename_i q
 simp only [Qao] at q;obtain ⟨n, rfl, b⟩ := rZ q.1
 cases bN x.po i with
 | nil => exact ⟨rfl, rfl⟩
 | cons f l => exact Na (by omega) a
 exact ⟨rfl, rfl⟩
theorem Nb {i n x} (a : x.pg.length = 12) (b : n < 8) : l8 x (nh i n x) := fun t c =>
  ⟨by show aK (eZ x.pg n) t = _; rw [yL a, Qah (by omega), Bool.and_true], BA (by omega)⟩
theorem a6Y {i p x} (a : x.pg.length = 12) : l8 x (lB i p x) := by
 unfold lB;split
 rename_i q
 simp only [Qao] at q;obtain ⟨n, rfl, b⟩ := rZ q.1;exact Nb a b;exact l8.rfl' x
theorem Nc {i x} (h : GMem i x) (a : i < 16) : ∀ n, n ≤ 8 → l8 x (cr i n x)
 | 0, _ => l8.rfl' x
 | n + 1, c => by
  have b := Nc h a n (by omega);rw [cr, k0];split;exact b.trans (Nb (h.strip a n (by omega)).pg.len (by omega));exact b
theorem Nf {who words x} : ∀ n, n ≤ 8 → l8 (rX x) (rX (ci who words n x))
 | 0, _ => l8.rfl' _
 | n + 1, c => by
  have a := Nf (who := who) (words := words) (x := x) n (by omega);refine a.trans fun t b => ?_;rw [ci, jz]
  cases bN (ci who words n x).po who with
  | nil => exact ⟨rfl, rfl⟩
  | cons f l => exact Na (pg := (ci who words n x).pg) (by omega) b
attribute [local irreducible] cr ci
theorem Ng {i n ws x} (h : GMem i x) (a : i < 16) (b : n ≤ 8) : l8 x (gC i n ws x) :=
  (Nc h a 8 (Qam _)).trans (Nf (x := ⟨(cr i 8 x).fr, (cr i 8 x).po, (cr i 8 x).pg⟩) n b)
end
section
open Go.RowKit
set_option linter.unusedSimpArgs false
set_option linter.unusedVariables false
set_option maxRecDepth 20000
set_option synthInstance.maxSize 2000
set_option synthInstance.maxHeartbeats 1000000
attribute [local irreducible] cr ci
abbrev dW (gb wb wg : Nat) (z : Gz) (zr : Rz) (g : Gu) (x : Mm) (L : List Nat) (T : List (Int × Int)) (d : Nat) (wl : List Nat) (R : List HP) : List HP := gA gb z g x (cR z.pb (z.ps, x.po) :: aY z.ps x.fr :: pt wg (ag (wl.map wV) 38) :: rA wb zr g L T d x R)
structure Dg (W0 : World) where
  c : Cfg
  i : Nat
  n : Nat
  wg : Nat
  wl : List Nat
  a : Option Addr
  cap : Nat
  ws : List Nat
  x0 : Mm
  bx : Nat
  br : Nat
  ok : CfK W0 c
  rt : rt c = true
  hi : i < c.gl.length
  hn : (cT c i).2.1 = (n : Int)
  par : n ≤ lY i x0.po
  po : 0 < x0.po.length
  hwl : wl = aZ ws 8
  hs : ∀ A, cG (aQ W0 A) a 1 iP ws
  hb : ∀ y ∈ ws, y < 4294967296
  hl : ws.length < 9223372036854775808
  hc : ws.length ≤ cap
theorem Dg.n8 {W0} (D : Dg W0) : D.n ≤ 8 := by
 have := (jC D.rt).gs D.i D.hi;rw [D.hn] at this; omega
theorem Dg.i4 {W0} (D : Dg W0) : D.i < 4 := by have := (jC D.rt).g4; have := D.hi; omega
theorem Dg.anew {W0} (D : Dg W0) i x : gC i D.n D.wl x = gC i D.n D.ws x := by
 have a := D.n8;have e : aZ D.wl D.n = aZ D.ws D.n := by
  rw [D.hwl, aZ, aZ, aZ, Qdb, Qbg (by omega)]
 rw [gC, gC, e]
theorem Dg.wlb {W0} (D : Dg W0) : (∀ y ∈ D.wl, y < 4294967296) ∧ D.wl.length ≤ 128 := by
 rw [D.hwl];exact ⟨fun y a => D.hb y (QbK a), by rw [w0]; omega⟩
structure DInv {W0 : World} (D : Dg W0) (N : Nat) (z : Gz) (zr : Rz) (g : Gu) (x : Mm) (L : List Nat) (T : List (Int × Int)) : Prop where
  c : z.c = D.c
  i : z.i = D.i
  w : z.wv = .slice (some ⟨D.wg, 0, none⟩) D.wl.length D.wl.length
  bx : z.bx = D.bx
  rc : zr.k = D.c
  ri : zr.i = D.i
  rw : zr.wv = .slice D.a D.ws.length D.cap
  rb : zr.bx = D.br
  ok : GOk z g N
  m : GMem D.i x
  s : l7 D.x0 x
  l : LRel g.ls g.ln L
  t : TRel g.tm T
  e : g.es.length ≤ 4096
  f : l8 D.x0 x
theorem wF {es e} (h : es.length ≤ 4096) : (ov es e).length ≤ 4096 := by
 unfold ov;split;rw [Qaf, QbD]; omega;exact h
theorem G9 {g a b} (h : g.es.length ≤ 4096) : (fD g a b).2.es.length ≤ 4096 := by
 unfold fD;split <;> exact wF h
theorem a6Z {g fr pg e} (h : g.es.length ≤ 4096) : (ip g fr pg e).1.2.es.length ≤ 4096 := by
 unfold ip pp pq
 repeat' (first | exact G9 h | exact wF h | exact h | split)
theorem a60 {i g fr pg} (h : g.es.length ≤ 4096) : (eR i g fr pg).1.2.es.length ≤ 4096 := by
 have a : (fF (iS (iZ g))).2.es.length ≤ 4096 := by
  unfold fF;split
  cases jF (iS (iZ g)).ls with
  | none => exact h
  | some n => exact wF h
  exact h
 unfold eR;split;exact h;split;exact a;unfold jo;split;exact G9 a;split;exact G9 a;exact a6Z a
theorem LRel.raiseG {ls now L} (h : LRel ls now L) (a : now < 1000000) n : LRel (if gr n then mr ls now n.toNat else ls) (if gr n then jZ ls now n.toNat else now) (nP L n) := by
 cases q : gr n with
 | false =>
  rw [nP, q];simpa using h
 | true =>
  have := Qar q;obtain ⟨k, rfl⟩ : ∃ k : Nat, n = (k : Int) := ⟨n.toNat, by omega⟩
  rw [Qad rfl, Qad rfl, Qae];exact h.raise a (by omega)
def a61 {W0 : World} (D : Dg W0) (gb wb N : Nat) (R : List HP) (v : Value) (B : List HP) : Prop :=
  v = .bool true ∧ ∃ z zr g x L T d, B = dW gb wb D.wg z zr g x L T d D.wl R ∧ DInv D N z zr g x L T
theorem a62 (hK : ∀ A, bC (aQ W0 A) 1 0 j9) (hH : ∀ A, bC (aQ W0 A) 0 0 kX) (D : Dg W0) gb wb N (hN : N ≤ 200) z zr g x L T d (h : DInv D N z zr g x L T) a (E : a.w < 4294967296) : sP W0 7 [pV gb, pV wb, .agg (re a).toArray] (dW gb wb D.wg z zr g x L T d D.wl R) (a61 D gb wb (N + 1) R) := by
 have G := D.i4;have H : z.i < 4 := by rw [h.i]; exact G
 have P : GMem z.i x := by rw [h.i]; exact h.m
 have I : GMem zr.i x := by rw [h.ri]; exact h.m
 have J : zr.i < 4 := by rw [h.ri]; exact G
 have x6 := h.ok.clk;have x3 := h.ok.ln;have x4 := h.ok.tn;have p : g.clock < 1000000000 := by omega
 have q : g.c.rl.length = 16 := h.ok.c.r.len;have F : 0 < x.po.length := by rw [h.s.1]; exact D.po
 have x5 := h.l.few;refine am func7 ntmps7 ?_;refine ez (kg rfl) fun K => ?_;refine ae rfl (bA rfl) (aL (aH (aO (aO (aX ?_)))));refine ae rfl (d5 rfl NR rfl aR rfl (by first | exact Qac _ | rfl)) ?_;refine ae rfl (cu di rfl (aI rfl)) ?_;refine aL (aH (mz (aO (aX (ae rfl (ix rfl rfl) (ae rfl (bA rfl) (aL (aH ?_))))))));refine aA rfl (fun c2 => ?_) fun c2 => ?_;refine aO ?_;refine fj [(K, 0, re a), (wb, 38, [pV zr.vic])] 14 mixed rfl (bQ (bU (ir fun _ => rfl) bH)) (fun j => ?_);refine aj 0 1 j ?_;refine aj 2 2 j ?_;refine aj 5 3 j ?_;refine ax 8 j (aE (jt (k := 1) rfl)) ?_;refine aj 9 2 j ?_;refine gy 1 rfl rfl (ap call24 (Mo W0 _ gb z g)) (bQ (bU (ir fun _ => rfl) bH)) fun j => ?_;refine gy 4 rfl rfl (ap call42 (M5 z.x.v g.ls g.ln a.n (by omega))) (bQ (bU (ir fun _ => rfl) bH)) fun j => ?_;refine gy 11 rfl rfl (ap call43 (MF zr.vic L (by omega) a.n)) (bQ (bU (ir fun _ => rfl) bH)) fun j => ?_;refine aj 12 2 j ?_;refine i6 ?_;refine aH (dE (mB (iU (ac ?_))));refine ⟨_, ⟨Qai Value.bool (Qbz _), z, zr, raiseG g a.n, x, _, T, d, rfl, ⟨h.c, h.i, h.w, h.bx, h.rc, h.ri, h.rw, h.rb, h.ok.raise a.n, h.m, h.s, h.l.raiseG (by omega) a.n, h.t, h.e, h.f⟩⟩, ?_⟩;unfold dW gA rA;rw [show e6 wb (zr, raiseG g a.n) = e6 wb (zr, g) from rfl];exact IO;refine aO (aX (ae rfl (ix rfl rfl) (ae rfl (bA rfl) (aL (aH ?_)))));refine aA rfl (fun c4 => ?_) fun c4 => ?_;refine aO ?_;refine bq [K] 10 fun j => ?_;refine aj 0 3 j ?_;refine aj 4 3 j ?_;refine cg 3 (cM call44 (a5b W0 _ gb z g H a.n x P F)) fun j => ?_;refine kl 7 (by kernel_rfl) rfl rfl (lM call45 rfl (a6e W0 _ wb zr g d J a.n x I F)) rfl ?_; clear j;rintro _ M ⟨rfl, o⟩;obtain rfl := o.symm;rw [show wx zr.i a.n x = wx z.i a.n x by rw [h.ri, h.i], show lz zr.i a.n x = lz z.i a.n x by rw [h.ri, h.i]];refine ⟨aT, fun j => ?_⟩;refine aj 8 2 j ?_;refine i6 ?_;refine aH (dE (mB (iU (ac ?_))));refine ⟨_, ⟨Qai Value.bool (Qbz _), z, zr, g, lz z.i a.n x, L, T, d, rfl, ⟨h.c, h.i, h.w, h.bx, h.rc, h.ri, h.rw, h.rb, h.ok.le (Qcx N), (by rw [h.i]; exact h.m.take (by omega)), h.s.take, h.l, h.t, h.e, h.f.trans (a6X _ _ _)⟩⟩, ?_⟩;unfold dW gA rA;rw [a6J];exact IO;refine aO (aX (ae rfl (ix rfl rfl) (ae rfl (bA rfl) (aL (aH ?_)))));refine aA rfl (fun c6 => ?_) fun c6 => ?_;refine aO ?_;refine bq [K] 10 fun j => ?_;refine aj 0 3 j ?_;refine aj 4 3 j ?_;refine kl 3 (by kernel_rfl) rfl rfl (lM call46 rfl (a5c W0 _ gb z g H a.n x P)) rfl ?_; clear j;rintro _ M ⟨rfl, o⟩;obtain rfl := o.symm;refine ⟨(bQ bH), fun j => ?_⟩;refine cj 7 (ua call47 rfl (a6f W0 _ wb zr g d J a.n x I)) ?_; clear j;rintro _ M ⟨rfl, o⟩;obtain rfl := o.symm;rw [show lB zr.i a.n x = lB z.i a.n x by rw [h.ri, h.i]];refine ⟨aT, fun j => ?_⟩;refine aj 8 2 j ?_;refine aJ ?_;refine ac ?_;exact ⟨_, ⟨Qai Value.bool (Qbz _), z, zr, g, lB z.i a.n x, L, T, d, rfl, ⟨h.c, h.i, h.w, h.bx, h.rc, h.ri, h.rw, h.rb, h.ok.le (Qcx N), (by rw [h.i]; exact h.m.gave (by omega)), h.s.gave P, h.l, h.t, h.e, h.f.trans (a6Y h.m.pg.len)⟩⟩, IO⟩;refine aw ?_;refine ai (fun c8 => ?_) fun c8 => ?_
 refine aD rfl (ua call19 rfl (a5f W0 _ gb z g (by rw [h.c]; exact D.ok) (by rw [h.c]; exact D.rt) (by rw [h.c, h.i]; exact D.hi) p x P F D.n (by rw [h.c, h.i]; exact D.hn) (by rw [h.i, h.s.par]; exact D.par) (some ⟨D.wg, 0, none⟩) D.wl.length D.wl h.w (by intro A hA; refine cG.weak (k := hA) ?_; exact rB (b := D.wg) (fun _ => rfl) (JH D.wl).symm) D.wlb.1 D.wlb.2)) ?_;rintro _ M ⟨y, q0, q1, q2, rfl, o⟩;obtain rfl := o.symm;refine aw ?_;refine aD rfl (ua call48 rfl (a6l W0 _ wb zr d g (by rw [h.rc]; exact D.ok) (by rw [h.rc]; exact D.rt) (by rw [h.rc, h.ri]; exact D.hi) p x I F D.n (by rw [h.rc, h.ri]; exact D.hn) (by rw [h.ri, h.s.par]; exact D.par) D.a D.cap D.ws h.rw D.hs D.hb D.hl D.hc)) ?_;rintro _ M ⟨r', c', v', t', rfl, o⟩;obtain rfl := o.symm;rw [show gC zr.i D.n D.ws x = gC z.i D.n D.wl x by rw [D.anew, h.ri, h.i]];refine aw ?_;refine ac ?_;exact ⟨_, ⟨rfl, { z with x := y, q0 := q0, q1 := q1, q2 := q2 }, { zr with r := r', c := c', vic := v', tim := t' }, fe g, gC z.i D.n D.wl x, [], [], d, rfl, ⟨h.c, h.i, h.w, h.bx, h.rc, h.ri, h.rw, h.rb, h.ok.anew H, (by rw [h.i]; exact h.m.anew (by omega) D.n8 (by rw [h.s.par]; exact D.par)), h.s.anew P (by omega), LRel.new, TRel.new, wF h.e, h.f.trans (by rw [h.i]; exact Ng h.m (by omega) D.n8)⟩⟩, IO⟩;refine ai (fun U => ?_) fun U => ?_;refine ah (cq call49 (a6b W0 _ wb zr g p q)) ?_;refine ah (cM call50 (a47 W0 _ gb z g p q)) ?_;refine ac ?_;exact ⟨_, ⟨rfl, z, zr, oy (hQ g) 4 0 0 g.c.pc, x, L, T, d, rfl, ⟨h.c, h.i, h.w, h.bx, h.rc, h.ri, h.rw, h.rb, h.ok.halt 4 0 0 g.c.pc, h.m, h.s, h.l, h.t, wF h.e, h.f⟩⟩, IO⟩;refine ai (fun V => ?_) fun V => ?_;refine ah (cq call51 (a6R gb z g q)) ?_;refine bj fun b8 => ?_;refine ar aF ?_;refine ah (cq call52 (a6c W0 _ wb zr g q)) ?_;refine bj fun x7 => ?_;refine ar aF ?_;refine aa (dT rfl rfl (by decide) rfl) ?_;refine ah (cq call53 (a6d W0 _ wb zr g p q (a.n.tmod 20) a.w _ rfl)) ?_;refine aa (dT rfl rfl (by decide) rfl) ?_;refine ah (cM call54 (a48 W0 _ gb z g p q (a.n.tmod 20) a.w _ rfl)) ?_;refine iF rfl rfl rfl (fun B => ?_) fun B => ?_;refine ae rfl (aM rfl) ?_;refine cI rfl rfl (ae rfl (aM rfl) (cI rfl rfl (ae rfl (ix rfl rfl) (ae rfl (m5 rfl rfl) (ae rfl (aM rfl) ?_)))));refine iF rfl rfl rfl (fun u => ?_) fun u => ?_;refine au 4 ?_;refine aa (vj Tryz.eqGuardType127 rfl rfl (AM (i := Tryz.t38) (ms := [bL g.c.rl 2, bL g.c.rl 3, bL g.c.rl 4, bL g.c.rl 5].map Int.ofNat) (ns := [bL g.c.rl 2, bL g.c.rl 3, bL g.c.rl 4, bL g.c.rl 5].map Int.ofNat) CK (by kernel_rfl) (by kernel_rfl) tJ mw rfl rfl rfl rfl)) ?_;refine ac ?_;exact ⟨_, ⟨Qai Value.bool (Qbz _), z, zr, BB g (u32 (a.n.tmod 20)) a.w, x, L, T, d, rfl, ⟨h.c, h.i, h.w, h.bx, h.rc, h.ri, h.rw, h.rb, h.ok.answer (dK _) E, h.m, h.s, h.l, h.t, wF h.e, h.f⟩⟩, IO⟩;exact absurd rfl u;exact absurd rfl B;refine ai (fun W => ?_) fun W => ?_;refine fj [(K, 0, re a), (wb, 13, [pV zr.v])] 20 mixed rfl (bQ (bU (ir fun _ => rfl) bH)) (fun j => ?_);refine aj 0 1 j ?_;refine aj 2 2 j ?_;refine ax 4 j (bD (d8 _)) ?_;refine aj 5 2 j ?_
 refine aj 8 3 j ?_;refine ax 11 j (aE (jt (k := 1) rfl)) ?_;refine aj 12 2 j ?_;refine ax 14 j (bD (d8 _)) ?_;refine aj 15 2 j ?_;refine gy 1 rfl rfl (ap CL (yO W0 _ gb z g)) (bQ (bU (ir fun _ => rfl) bH)) fun j => ?_;refine gy 7 rfl rfl (cq call55 (a3T W0 _ z.x.m z.pv z.ps z.pm g.bud x.fr x.pg (u32 a.n) (dK _) 4 a.w E)) (bQ (bU (ir fun _ => rfl) bH)) fun j => ?_;refine gy 17 rfl rfl (cM call56 (Xu zr.v zr.ps zr.pm d x.fr x.pg h.m.pg h.m.fr (u32 a.n) (dK _) 4 a.w E)) (bQ (bU (ir fun _ => rfl) bH)) fun j => ?_;refine aj 18 2 j ?_;refine aJ ?_;refine ac ?_;exact ⟨_, ⟨Qai Value.bool (Qbz _), z, zr, g, a6I x a.n a.w, L, T, pI x.fr x.pg (u32 a.n) 4 d, rfl, ⟨h.c, h.i, h.w, h.bx, h.rc, h.ri, h.rw, h.rb, h.ok.le (Qcx N), h.m.vsave, h.s, h.l, h.t, h.e, h.f⟩⟩, IO⟩;refine ai (fun X => ?_) fun X => ?_;refine fj [(K, 0, re a), (wb, 11, [pV zr.r])] 17 mixed rfl (bQ (bU (ir fun _ => rfl) bH)) (fun j => ?_);refine aj 0 5 j ?_;refine aj 6 3 j ?_;refine ax 9 j (aE (jt (k := 1) rfl)) ?_;refine aj 10 4 j ?_;refine gy 5 rfl rfl (cq call57 (a49 W0 _ gb z g q a.n a.w)) (bQ (bU (ir fun _ => rfl) bH)) fun j => ?_;refine gy 14 rfl rfl (ap zG (wz zr.r a.w a.n q)) (bQ (bU (ir fun _ => rfl) bH)) fun j => ?_;refine aj 15 2 j ?_;refine aJ ?_;refine ac ?_;refine ⟨_, ⟨Qai Value.bool (Qbz _), z, zr, G8 g a.n a.w, x, L, T, d, rfl, ⟨h.c, h.i, h.w, h.bx, h.rc, h.ri, h.rw, h.rb, h.ok.setr a.n E, h.m, h.s, h.l, h.t, h.e, h.f⟩⟩, ?_⟩;unfold dW gA rA;rw [show e6 wb (zr, G8 g a.n a.w) = e6 wb (zr, g) from rfl];exact IO;refine ai (fun Y => ?_) fun Y => ?_;refine bq [K] 10 fun j => ?_;refine aj 0 1 j ?_;refine aj 2 2 j ?_;refine cg 1 (ap call26 (Mp W0 _ gb z g)) fun j => ?_;refine cg 4 (ap call59 (a4L z.x.t g.tm a.n (by omega))) fun j => ?_;refine aj 5 5 j ?_;refine aJ ?_;refine fj [(K, 0, re a), (wb, 39, [pV zr.tim])] 12 mixed rfl (bQ (bU (ir fun _ => rfl) bH)) (fun j => ?_);refine aj 0 3 j ?_;refine ax 3 j (aE (jt (k := 1) rfl)) ?_;refine aj 4 2 j ?_;refine cj 6 (ap call60 (a5E zr.tim T (by have := h.t.few; omega) a.n)) ?_; clear j;rintro _ M ⟨rfl, o⟩;obtain rfl := o.symm;rw [← h.t.armI, ← h.t.armE];refine ⟨(bQ (bU (ir fun _ => rfl) bH)), fun j => ?_⟩;refine aj 7 5 j ?_;refine aJ ?_;refine bO (fun C => ?_) fun C => ?_;refine ac ?_;refine ⟨_, ⟨Qai Value.bool (Qbz _), z, zr, G7 g a.n, x, L, _, d, rfl, ⟨h.c, h.i, h.w, h.bx, h.rc, h.ri, h.rw, h.rb, h.ok.arm a.n, h.m, h.s, h.l, h.t.arm a.n (by omega), h.e, h.f⟩⟩, ?_⟩;unfold dW gA rA;rw [show e6 wb (zr, G7 g a.n) = e6 wb (zr, g) from rfl];exact IO;exact absurd rfl C;obtain ⟨s, O⟩ : ∃ s, eR z.i g x.fr x.pg = s := ⟨_, rfl⟩
 have Z : eR zr.i g x.fr x.pg = s := by rw [h.ri, ← h.i]; exact O
 have x0 : GOk z s.1.2 (N + 1) := by rw [← O]; exact h.ok.step h.m.fr
 have x1 : s.1.2.es.length ≤ 4096 := by rw [← O]; exact a60 h.e
 have x2 : GMem D.i ⟨s.2, x.pg, x.po⟩ := by rw [← O, h.i]; exact h.m.step h.ok.c G
 have hq : s.1.2.qa = g.qa ∧ s.1.2.qb = g.qb ∧ s.1.2.qc = g.qc := by rw [← O]; exact a6K
 refine ah (xS H9 rfl (Bz W0 _ gb z g N x.fr x.pg hK hH h.ok (by omega) h.m.fr)) ?_;rw [O];refine aD rfl (xS call62 rfl (a58 W0 _ wb zr g L T d x.fr x.pg h.m.pg h.m.fr h.ok.c J (by omega) h.l (by omega) h.t)) ?_;rintro _ M ⟨L2, T2, rfl, o, Q, S⟩;obtain rfl := o.symm;rw [Z] at Q S ⊢;refine aw ?_;refine ac ?_;refine ⟨_, ⟨Qai Value.bool (Qbz _), z, zr, s.1.2, ⟨s.2, x.pg, x.po⟩, L2, T2, d, rfl, ⟨h.c, h.i, h.w, h.bx, h.rc, h.ri, h.rw, h.rb, x0, x2, h.s, Q, S, x1, h.f⟩⟩, ?_⟩;unfold dW gA rA;rw [hq.1, hq.2.1, hq.2.2];exact IO
end
section
open Go.RowKit
theorem a63 {fr fr'} {f a : Nat} (c : f < fr.length) (b : a < fr'.length) (e : fr.getD f [] = fr'.getD a []) o w x : (eJ fr f o w x).getD f [] = (eJ fr' a o w x).getD a [] := by
 have d : dN fr.length (f : Int) = true := by simp only [dN, Qaj]; omega
 have g : dN fr'.length (a : Int) = true := by simp only [dN, Qaj]; omega
 unfold eJ kL;rw [d, g, Qbb];split;rw [Qae, Qae];simp only [List.getD, List.getElem?_set_self c, List.getElem?_set_self b];simp only [List.getD] at e;rw [e];exact e
theorem Nh {fr f o w x} : (eJ fr f o w x).length = fr.length := by
 unfold eJ; split;rw [Qap];rfl
theorem Ni : ∀ (l : List Nat) (j : Nat) {c a : List aB} {f b : Nat}, f < c.length → b < a.length → c.getD f [] = a.getD b [] → (gK f l j c).getD f [] = (gK b l j a).getD b []
 | [], _, _, _, _, _, _, _, e => e
 | y :: l, j, c, a, f, b, h, d, e => by
  rw [gK, gK];exact Ni l (j + 1) (by rw [Nh]; exact h) (by rw [Nh]; exact d) (a63 h d e _ _ _)
def Ga (words : List Nat) (t : Nat) : aB := (gK 0 (e7 words t) 0 [cm]).getD 0 []
theorem GMem.laid {i words x} (h : GMem i (rX x)) (u : i < 16) (g : pK x.pg 0 8) : ∀ n, n ≤ 8 → n ≤ (bN x.po i).length → (∀ t, t < 8 → aK (ci i words n x).pg (t : Nat) = decide (t < n)) ∧ ∀ t, t < n → (ci i words n x).fr.getD (bF (ci i words n x).pg t).1.toNat [] = Ga words t
 | 0, _, _ => ⟨fun t k => by rw [Qal (by omega)]; exact g t (QaF _) k, fun t v => absurd v (QbF _)⟩
 | n + 1, F, G => by
  obtain ⟨w, z⟩ := h.laid (words := words) u g n (by omega) (by omega);have a := h.lay (words := words) u g n (by omega) (by omega);have A := (xL (who := i) (words := words) g h.pg.len n (by omega)).1 n (Qam _) (by omega);have y := xK (who := i) (words := words) (x := x) n;have b : (ci i words n x).pg.length = 12 := a.pg.len;rw [ci, jz]
  cases e : bN (ci i words n x).po i with
  | nil => rw [e] at y; simp at y; omega
  | cons f l =>
   have j := kB.1 (show f ∈ bN (ci i words n x).po i by rw [e]; simp);have B : (ci i words n x).fr.getD f [] = cm := a.nul f j.1 j.2;have c : (ci i words n x).po.length = (ci i words n x).fr.length := a.len;have m : f < (ci i words n x).fr.length := by rw [← c]; exact j.1
   have d : f < 32 := by have := a.po.len; have : (ci i words n x).po.length ≤ 32 := this; omega
   have C := Ev (show n < 8 by omega) d A;have D : dO (ci i words n x).pg n ((f : Int), 3) = (ci i words n x).pg.set n ((f : Int), 3) := by rw [dO, Qad C, Qae]
   have o : (((f : Int), 3) : Pl) ≠ (0, 0) := fun e => by have := (Qcy e).2; omega
   dsimp only;rw [D];refine ⟨fun t k => ?_, fun t v => ?_⟩;rw [yM b (by omega), w t k, Qag];simp only [Bool.or_eq_true, Qaj];omega;by_cases q : t = n;subst q;rw [(yB b (by omega) o).2, Qae];exact Ni (e7 words t) 0 m (by decide) (by rw [B]; rfl);rw [(g5 (by omega : (t : Int) ≠ (n : Int))).2];have p : aK (ci i words n x).pg (t : Nat) = true := by rw [w t (by omega), Qah (by omega)]
   have r := a.own t (by omega) p;have s : (bF (ci i words n x).pg (t : Nat)).1.toNat ≠ f := fun E => by
    have : d6 (ci i words n x).po (bF (ci i words n x).pg (t : Nat)).1.toNat = ((i : Int), true) := r;rw [E, j.2] at this;exact absurd (Qcy this).2 (by decide)
   rw [FI s];exact z t (by omega)
attribute [local irreducible] cr ci
theorem a64 {i n ws x} (h : GMem i x) (a : i < 16) (b : n ≤ 8) (c : n ≤ lY i x.po) : (∀ t, t < 8 → aK (gC i n ws x).pg (t : Nat) = decide (t < n)) ∧ ∀ t, t < n → (gC i n ws x).fr.getD (bF (gC i n ws x).pg t).1.toNat [] = Ga (aZ ws n) t := by
 have d := h.strip a 8 (Qam _);exact GMem.laid (x := ⟨(cr i 8 x).fr, (cr i 8 x).po, (cr i 8 x).pg⟩) d a (yP h a) n b (by rw [BE h a]; exact c)
theorem Gb {c i} : ∀ (k : Nat) (a : List Pl) (t : Nat), t < 8 → aK (eC c i k a) t = aK a t ∧ bF (eC c i k a) t = bF a t
 | 0, _, _, _ => ⟨rfl, rfl⟩
 | k + 1, a, t, d => by
  have b := Gb (c := c) (i := i) k a t d;rw [eC];split;exact b;unfold dO;split;have := g5 (pg := eC c i k a) (n := (((8 + k : Nat) : Int)).toNat) (p := (lP c k, lR (mm c k) i)) (show (t : Int) ≠ ((((8 + k : Nat) : Int)).toNat : Int) by omega);exact ⟨this.1.trans b.1, this.2.trans b.2⟩;exact b
theorem a65 {c} (d : rt c = true) {i} (h : i < c.gl.length) : GMem i ⟨List.replicate (bI c) cm, iz, dv c (bI c)⟩ := by
 have g := jC d;have b : (List.replicate (bI c) cm).length = bI c := by simp
 refine GMem.none (cB.new _) (y4 g _) (by rw [nK, b]) (fun f a e => ?_) (fun f a _ => ?_);rw [nK] at a;rw [uB a, Qad a] at e
 cases q : kT c f with
 | some j => rw [q] at e; have := (Qcy e).2; cases this
 | none => rw [q] at e; have := (Qcy e).2; cases this
 rw [nK] at a;simp [List.getD, a]
theorem a66 {c} (d : rt c = true) {i} (a : i < c.gl.length) {n : Nat} (h : (cT c i).2.1 = n) ws : (∀ t, t < 8 → aK (hZ c i ws (List.replicate (bI c) cm) (dv c (bI c))).pg (t : Nat) = decide (t < n)) ∧ ∀ t, t < n → (hZ c i ws (List.replicate (bI c) cm) (dv c (bI c))).fr.getD (bF (hZ c i ws (List.replicate (bI c) cm) (dv c (bI c))).pg t).1.toNat [] = Ga (aZ ws n) t := by
 have b := jC d;have j := b.g4;have k := b.gs i a;have l := AS b a;have e : laid c i ws (List.replicate (bI c) cm) (dv c (bI c)) = ci i (aZ ws n) n ⟨List.replicate (bI c) cm, dv c (bI c), iz⟩ := by rw [laid, h]; rfl
 have f := GMem.laid (words := aZ ws n) (x := ⟨List.replicate (bI c) cm, dv c (bI c), iz⟩) (a65 d a) (show i < 16 by omega) B4 n (by omega) (by show n ≤ (bN (dv c (bI c)) i).length; omega);have m : (hZ c i ws (List.replicate (bI c) cm) (dv c (bI c))).pg = eC c i c.nl.length (ci i (aZ ws n) n ⟨List.replicate (bI c) cm, dv c (bI c), iz⟩).pg := by rw [← e]; rfl
 have o : (hZ c i ws (List.replicate (bI c) cm) (dv c (bI c))).fr = (ci i (aZ ws n) n ⟨List.replicate (bI c) cm, dv c (bI c), iz⟩).fr := by rw [← e]; rfl
 rw [m, o];exact ⟨fun t g => (Gb _ _ t g).1.trans (f.1 t g), fun t p => by rw [(Gb _ _ t (by omega)).2]; exact f.2 t p⟩
theorem a67 {c} (g : rt c = true) {i} (j : i < c.gl.length) {n : Nat} (m : (cT c i).2.1 = n) {ws wl} (b : aZ wl n = aZ ws n) {x0 x} (d : hZ c i ws (List.replicate (bI c) cm) (dv c (bI c)) = x0) (h : GMem i x) (o : l8 x0 x) (p : n ≤ lY i x.po) :
    (∀ t : Nat, aK (gC i n wl x).pg t = aK x0.pg t) ∧ ∀ t : Nat, t < 8 → aK x0.pg t = true → (gC i n wl x).fr.getD (bF (gC i n wl x).pg t).1.toNat [] = x0.fr.getD (bF x0.pg t).1.toNat [] := by
 have k := jC g;have q := k.g4;have r := k.gs i j;obtain ⟨s, u⟩ := a64 (ws := wl) h (show i < 16 by omega) (show n ≤ 8 by omega) p;obtain ⟨e, l⟩ := a66 g j m ws;rw [d] at e l;refine ⟨fun t => ?_, fun t a f => ?_⟩;rcases QaC t 8 with a | a;rw [s t a, e t a];exact (Ng (ws := wl) h (show i < 16 by omega) (show n ≤ 8 by omega) t a).1.trans (o t a).1;rw [e t a, Qak] at f;rw [u t f, l t f, b]
abbrev nI (n : Nat) : Value := .int .i64 n
def dH (pg : List Pl) : Nat → List Nat
 | 0 => []
 | k + 1 => if aK pg ((k : Nat) : Int) = true then dH pg k ++ [k] else dH pg k
theorem Gc pg : ∀ k, (dH pg k).length ≤ k
 | 0 => Qam _
 | k + 1 => by
  have := Gc pg k;rw [dH]; split <;> simp <;> omega
theorem C2 pg : ∀ k j, j < (dH pg k).length → aK pg ((dH pg k).getD j 0) = true ∧ (dH pg k).getD j 0 < k ∧ ∀ m, m < j → (dH pg k).getD m 0 < (dH pg k).getD j 0
 | 0, j, h => absurd h (QbF _)
 | k + 1, j, h => by
  by_cases q : aK pg ((k : Nat) : Int) = true;rw [dH, Qad q] at h ⊢;rw [Qaf, QbD] at h;have g : ∀ m, m < (dH pg k).length → (dH pg k ++ [k]).getD m 0 = (dH pg k).getD m 0 := fun m d => by simp [List.getD, QaA d]
  rcases QaC j (dH pg k).length with e | e;obtain ⟨a, b, c⟩ := C2 pg k j e;rw [g j e];exact ⟨a, by omega, fun m d => by rw [g m (by omega)]; exact c m d⟩;have : j = (dH pg k).length := by omega
  subst this;rw [show (dH pg k ++ [k]).getD (dH pg k).length 0 = k by simp [List.getD]];refine ⟨q, Nat.lt_succ_self k, fun m d => ?_⟩;rw [g m d];exact (C2 pg k m d).2.1;rw [dH, Qaa q] at h ⊢;obtain ⟨a, b, c⟩ := C2 pg k j h;exact ⟨a, by omega, c⟩
theorem Nj pm pg (h : Pgs pg) : sP W0 13 [pV pm] (pt pm (bB pg) :: R) (fun v B => ∃ a c, v = .slice a (dH pg 12).length c ∧ B = osl 3 1 (.slice a (dH pg 12).length c) ((dH pg 12).map nI) :: pt pm (bB pg) :: R) := by
 refine am func13 ntmps13 ?_;refine ah (ap zq (vI pm pg h)) ?_;refine fM (fun X : Nat × Option Addr × Nat => X.1 ≤ 12) (fun X => [(0, pV pm), (3, .slice X.2.1 (dH pg X.1).length X.2.2), (7, iQ X.1)]) (fun X => osl 3 1 (.slice X.2.1 (dH pg X.1).length X.2.2) ((dH pg X.1).map nI) :: pt pm (bB pg) :: R) (fun X => 12 - X.1) (0, none, 0) ?_ ?_ ?_ ?_;exact QaF _
 · repeat (first | exact bK | refine bc rfl ?_)
 exact eX (E := 3) (sz := 1) (k := ent_refl);intro ⟨k, a, d⟩ hk;dsimp only at hk ⊢;refine aw ?_;refine aA rfl (fun f => ?_) fun f => ?_;refine au 2 ?_;refine cF (fun Z : Option Addr × Nat => k < 12) (fun Z => [(0, pV pm), (3, .slice Z.1 (dH pg (k + 1)).length Z.2), (7, iQ k)]) (fun Z => osl 3 1 (.slice Z.1 (dH pg (k + 1)).length Z.2) ((dH pg (k + 1)).map nI) :: pt pm (bB pg) :: R) ?_ ?_;refine au 2 ?_;have b : k < 12 := by omega
 have m := Gc pg k;refine aw ?_;refine ah (ap GD (Aa pm pg h ((k : Nat) : Int))) ?_;refine ai (fun e => ?_) fun e => ?_;refine dt (js ek aR m4 rfl rfl rfl rfl rfl (by decide) (by decide)) fun n => ?_;refine aD rfl (et (sz := 1) (by_ := 8) (info := Tryz.t3) ek (by kernel_rfl) rfl rfl rfl rfl (by decide) rfl rfl ee rfl rfl (by simp only [maxLen]; omega) (by omega)) ?_;rintro _ _ ⟨g, i, rfl, rfl⟩;refine aw ?_;refine dj (g, i) ?_ ?_ ?_;exact b
 · rw [show dH pg (k + 1) = dH pg k ++ [k] by rw [dH, Qad (by simpa using e)], show (dH pg k ++ [k]).length = (dH pg k).length + 1 by simp]
   repeat (first | exact bK | refine bc rfl ?_)
 rw [show dH pg (k + 1) = dH pg k ++ [k] by rw [dH, Qad (by simpa using e)], show (dH pg k ++ [k]).length = (dH pg k).length + 1 by simp, show (dH pg k ++ [k]).map nI = (dH pg k).map nI ++ [nI k] by simp];exact IO;refine dj (a, d) ?_ ?_ ?_;exact b
 · rw [show dH pg (k + 1) = dH pg k by rw [dH, Qaa (by simpa using e)]]
   repeat (first | exact bK | refine bc rfl ?_)
 rw [show dH pg (k + 1) = dH pg k by rw [dH, Qaa (by simpa using e)]];exact IO;intro ⟨j, l⟩ b;refine aw ?_;refine aa bY ?_;refine bR (k + 1, j, l) ?_ (hμ := ?_);omega;show 12 - (k + 1) < 12 - k; omega;refine aw ?_;refine ac ?_;obtain rfl : k = 12 := by omega
 exact ⟨_, ⟨a, d, rfl, rfl⟩, IO⟩
section
variable (W0 : World) (R : List HP) (bm pv ps pm bud : Nat) (fr : List aB) (pg : List Pl)
theorem a68 : bE Tryz.prog W0 12 [pV pv] (gZ bm ⟨pv, ps, pm, bud, fr, pg⟩ :: R) (fun v B => v = pV pm ∧ B = gZ bm ⟨pv, ps, pm, bud, fr, pg⟩ :: R) := by
 refine qT fun c e a T L b d f g h i => ?_;refine ub (B := pt pv (bW ps pm d) :: pt bm (cD pv c e) :: aU c (a, cX 4 b) :: bG e L :: pt pm (bB pg) :: R) inferInstance ?_;refine ge (qt pv ps pm d) fun v B j => ?_;obtain ⟨rfl, rfl⟩ := j;exact ⟨_, ⟨rfl, rfl⟩, Ent.trans (B := pt bm (cD pv c e) :: aU c (a, cX 4 b) :: bG e L :: pt pv (bW ps pm d) :: pt pm (bB pg) :: R) inferInstance (ou f g h i)⟩
theorem a69 : bE Tryz.prog W0 13 [pV pm] (gZ bm ⟨pv, ps, pm, bud, fr, pg⟩ :: R) (fun v B => ∃ a c, v = .slice a (dH pg 12).length c ∧ B = osl 3 1 (.slice a (dH pg 12).length c) ((dH pg 12).map nI) :: gZ bm ⟨pv, ps, pm, bud, fr, pg⟩ :: R) := by
 refine qT fun f g b T L e d i j k h => ?_;refine ub (B := pt pm (bB pg) :: pt bm (cD pv f g) :: aU f (b, cX 4 e) :: bG g L :: pt pv (bW ps pm d) :: R) inferInstance ?_;refine ge (Nj pm pg h.P) fun v B l => ?_;obtain ⟨a, c, rfl, rfl⟩ := l;exact ⟨_, ⟨a, c, rfl, rfl⟩, Ent.cons (Ent.trans (B := pt bm (cD pv f g) :: aU f (b, cX 4 e) :: bG g L :: pt pv (bW ps pm d) :: pt pm (bB pg) :: R) inferInstance (ou i j k h))⟩
end
section
variable (W0 : World) (R : List HP) (bm pv ps pm bud : Nat) (fr : List aB) (pg : List Pl)
theorem a7a (b : Nat) (i : b < 4294967296) n : sP W0 29 [pV pv, .int .u32 b, iQ n] (gZ bm ⟨pv, ps, pm, bud, fr, pg⟩ :: aY ps fr :: R) (fun v B => ∃ a c, v = .tuple #[.slice a (ia fr pg b n).length c, .bool (iL fr.length pg b n)] ∧ B = osl 5 1 (.slice a (ia fr pg b n).length c) (bS (ia fr pg b n)) :: gZ bm ⟨pv, ps, pm, bud, fr, pg⟩ :: aY ps fr :: R) := by
 refine qT fun g h e T L f d k l m j => ?_;refine ub (B := pt pv (bW ps pm d) :: aY ps fr :: pt pm (bB pg) :: pt bm (cD pv g h) :: aU g (e, cX 4 f) :: bG h L :: R) inferInstance ?_;refine ge (DK pv ps pm d fr pg j.P j.F b i n) fun v B o => ?_;obtain ⟨a, c, rfl, rfl⟩ := o;exact ⟨_, ⟨a, c, rfl, rfl⟩, Ent.cons (Ent.trans (B := pt bm (cD pv g h) :: aU g (e, cX 4 f) :: bG h L :: pt pv (bW ps pm d) :: pt pm (bB pg) :: aY ps fr :: R) inferInstance (ou k l m j))⟩
end
end
section
open Go.RowKit
set_option linter.unusedSimpArgs false
set_option linter.unusedVariables false
set_option maxRecDepth 20000
set_option synthInstance.maxSize 1000
set_option synthInstance.maxHeartbeats 400000
def Gd (z : Gz) : Nat → Nat
 | 0 => z.q0
 | 1 => z.q1
 | _ => z.q2
theorem a7b {z g d} (a : d < 3) : (ly z g)[3 + d * 1]? = some (pV (Gd z d)) := by
 have : d = 0 ∨ d = 1 ∨ d = 2 := by omega
 rcases this with rfl | rfl | rfl <;> rfl
theorem a7c {z g k} (a : k < 4) : (ly z g)[9 + k * 1]? = some (wV (bL g.rd k)) := by
 have : k = 0 ∨ k = 1 ∨ k = 2 ∨ k = 3 := by omega
 rcases this with rfl | rfl | rfl | rfl <;> rfl
section
variable (W0 : World) (R : List HP) (gb : Nat) (z : Gz) (g : Gu)
theorem a7d (d : Nat) (c : d < 3) : sQ W0 30 [pV gb, iQ d] (pt gb (cH z g) :: R) (pV (Gd z d)) (pt gb (cH z g) :: R) := by
 refine am func30 ntmps30 ?_;refine dV 1 (ap lD (l5 W0 _ gb z g)) ?_;refine cy rfl rfl rfl (fun a => ?_) fun a => ?_;exact absurd a (by decide);refine aw ?_;refine cy rfl rfl rfl (fun b => ?_) fun b => ?_;omega;refine aw ?_;refine aA rfl (fun e => ?_) fun e => ?_;omega;refine aw ?_;refine aa (eW a8a NH rfl rfl (i := d) rfl c (by first | exact Qac _ | rfl)) ?_;refine aa (aE (aI (a7b c))) ?_;exact ac ao
theorem a7e k : sQ W0 87 [iQ k] R (.bool (decide (0 ≤ k ∧ k < 4))) R := by
 refine am func87 ntmps87 ?_;refine bO (fun a => ?_) fun a => ?_;rw [show decide (0 ≤ k ∧ k < 4) = decide (k < 4) by apply Qaz.2; omega];exact ac ao;rw [show decide (0 ≤ k ∧ k < 4) = false by apply Qal; omega];exact ac ao
theorem a7f (k : Nat) (b : k < 4) : sQ W0 28 [pV gb, iQ k] (pt gb (cH z g) :: R) (wV (bL g.rd k)) (pt gb (cH z g) :: R) := by
 refine am func28 ntmps28 ?_;refine dV 1 (ap lD (l5 W0 _ gb z g)) ?_;refine cy rfl rfl rfl (fun a => ?_) fun a => ?_;exact absurd a (by decide);refine aw ?_;refine jO (aC call87 (a7e W0 _ k)) ?_;rw [Qah (show 0 ≤ (k : Int) ∧ (k : Int) < 4 by omega)];refine au 5 ?_;refine jf ?_;refine ae rfl (eW CK aW rfl rfl (i := k) rfl b (by first | exact Qac _ | rfl)) ?_;refine aa (aE (aI (a7c b))) ?_;exact ac ao
theorem a7g : sQ W0 8 [pV gb] (pt gb (cH z g) :: R) (pV z.x.m) (pt gb (cH z g) :: R) := by
 refine am func8 ntmps8 ?_;refine ah (ap lD (l5 W0 _ gb z g)) ?_;exact ac ao
end
end
section
open Go.RowKit
def gD (ls : List Li) : Nat → List Nat
 | 0 => []
 | k + 1 => if (ls.getD k default).w = true then gD ls k ++ [k] else gD ls k
theorem Nk ls : ∀ k, (gD ls k).length ≤ k
 | 0 => Qam _
 | k + 1 => by
  have := Nk ls k;rw [gD]; split <;> simp <;> omega
theorem a7h {ls : List Li} {n} (h : n < ls.length) : (ls.flatMap mq).toArray.extract (n * 4) (n * 4 + 4) = (mq (ls.getD n default)).toArray := by
 have a := q9 pO ls n [] h;rw [Qav] at a;rw [List.extract_toArray, List.extract_eq_take_drop, Nat.add_sub_cancel_left, a];simp [List.getD, h]
theorem a7i b ls now : sP W0 25 [pV b] (lw b (ls, now) :: R) (fun v B => ∃ a c, v = .slice a (gD ls 8).length c ∧ B = osl 3 1 (.slice a (gD ls 8).length c) ((gD ls 8).map nI) :: lw b (ls, now) :: R) := by
 refine Fy fun g s t q => ?_;have m := q.len;refine am func25 ntmps25 ?_;refine ah (ap OB (Fs b g ls now m)) ?_
 refine ae rfl (iD isAgg172 sizeOf172 rfl (Fq (T := 177) (E := 331) (sz := 3) (f := gB) (o := 32) (vs := ls.flatMap mq) fun j v p => ⟨by
 have := (QbS.1 p).1;rw [cJ pO, m] at this; omega, by
 rw [Qac, dF, QaA (QbS.1 p).1]; exact p⟩) (by rw [cJ pO, m])) ?_
 refine aw ?_;refine fM (fun X : Nat × Option Addr × Nat => X.1 ≤ 8) (fun X => [(0, pV b), (3, .slice X.2.1 (gD ls X.1).length X.2.2), (11, .agg (ls.flatMap mq).toArray), (12, iQ X.1)]) (fun X => osl 3 1 (.slice X.2.1 (gD ls X.1).length X.2.2) ((gD ls X.1).map nI) :: ej b (g, dF ls now) :: R) (fun X => 8 - X.1) (0, none, 0) ?_ ?_ ?_ ?_;exact QaF _
 · repeat (first | exact bK | refine bc rfl ?_)
 exact eX (E := 3) (sz := 1) (k := ent_refl);intro ⟨k, a, h⟩ hk;dsimp only at hk ⊢;refine aw ?_;refine aA rfl (fun u => ?_) fun u => ?_;have d : k < 8 := by omega
 have x := Nk ls k;have i := a7h (ls := ls) (n := k) (by omega);obtain ⟨y, r⟩ : ∃ y, ls.getD k default = y := ⟨_, rfl⟩
 have e : gD ls (k + 1) = if y.w = true then gD ls k ++ [k] else gD ls k := by rw [gD, r]
 rw [r] at i;refine au 2 ?_;refine cF (fun Z : Option Addr × Nat => k < 8) (fun Z => [(0, pV b), (3, .slice Z.1 (gD ls (k + 1)).length Z.2), (11, .agg (ls.flatMap mq).toArray), (12, iQ k)]) (fun Z => osl 3 1 (.slice Z.1 (gD ls (k + 1)).length Z.2) ((gD ls (k + 1)).map nI) :: ej b (g, dF ls now) :: R) ?_ ?_;refine au 4 ?_;refine aa (F9 a8e isAgg171 sizeOf171 rfl rfl rfl d i) ?_;refine bj fun F => ?_;refine ar aF ?_;refine ai (fun l => ?_) fun l => ?_;refine dt (js ek aR m4 rfl rfl rfl rfl rfl (by decide) (by decide)) fun G => ?_;refine aD rfl (et (sz := 1) (by_ := 8) (info := Tryz.t3) ek (by kernel_rfl) rfl rfl rfl rfl (by decide) rfl rfl ee rfl rfl (by simp only [maxLen]; omega) (by omega)) ?_;rintro _ _ ⟨z, A, rfl, rfl⟩;refine aw ?_;refine dj (z, A) ?_ ?_ ?_;exact d
 · rw [show gD ls (k + 1) = gD ls k ++ [k] by rw [e, Qad (by simpa using l)], show (gD ls k ++ [k]).length = (gD ls k).length + 1 by simp]
   repeat (first | exact bK | refine bc rfl ?_)
 rw [show gD ls (k + 1) = gD ls k ++ [k] by rw [e, Qad (by simpa using l)], show (gD ls k ++ [k]).length = (gD ls k).length + 1 by simp, show (gD ls k ++ [k]).map nI = (gD ls k).map nI ++ [nI k] by simp];exact IO;refine dj (a, h) ?_ ?_ ?_;exact d
 · rw [show gD ls (k + 1) = gD ls k by rw [e, Qaa (by simpa using l)]]
   repeat (first | exact bK | refine bc rfl ?_)
 rw [show gD ls (k + 1) = gD ls k by rw [e, Qaa (by simpa using l)]];exact IO;intro ⟨C, D⟩ d;refine aw ?_;refine aa bY ?_;refine bR (k + 1, C, D) ?_ (hμ := ?_);omega;show 8 - (k + 1) < 8 - k; omega;refine aw ?_;refine ac ?_;obtain rfl : k = 8 := by omega
 exact ⟨_, ⟨a, h, rfl, rfl⟩, Ent.cons (wt s t q)⟩
theorem a7j b x : sQ W0 27 [kG b] (lx b x :: R) (iQ x.ti.length) (lx b x :: R) := by
 obtain ⟨f, a, i⟩ := x;refine FA fun c d g e => ?_;dsimp only at d e;refine ge (a4E b c f a e.len) fun v B h => ?_;obtain ⟨rfl, rfl⟩ := h;exact ⟨_, ⟨by rw [d.length_eq], rfl⟩, wu d g e⟩
theorem Nl gb z g (h : CsOk g.c.cs) : sQ W0 22 [pV gb] (pt gb (cH z g) :: pt z.x.c (dZ g.c.cs z.i) :: R) (.agg (g.c.cs.map wV).toArray) (pt gb (cH z g) :: pt z.x.c (dZ g.c.cs z.i) :: R) := by
 refine am func22 ntmps22 ?_;refine bj fun a => ?_;refine ah (ap lD (l5 W0 _ gb z g)) ?_;refine ah (ap call83 (Lq z.x.c h)) ?_;refine ar (fN tG rfl rfl (by rw [Qax, h.len]) (AT g.c.cs) rfl) ?_;exact aV (.cons (bi GR tG rfl (by rw [Qax, h.len])) .nil) ao
end
section
open Go.RowKit
set_option linter.unusedSimpArgs false
set_option linter.unusedVariables false
set_option maxRecDepth 20000
set_option synthInstance.maxSize 2000
set_option synthInstance.maxHeartbeats 1000000
attribute [local irreducible] cr ci
theorem a7k po i : (bN po i).length ≤ lY i po := by
 unfold bN lY;rw [← List.countP_eq_length_filter, ← List.countP_eq_length_filter];refine List.countP_mono_left fun f _ h => ?_;rw [eq_of_beq h];exact Qbz _
theorem DInv.le {W0} {D : Dg W0} {N M z zr g x L T} (h : DInv D N z zr g x L T) (a : N ≤ M) : DInv D M z zr g x L T := ⟨h.c, h.i, h.w, h.bx, h.rc, h.ri, h.rw, h.rb, h.ok.le a, h.m, h.s, h.l, h.t, h.e, h.f⟩
abbrev a7l (zb br : Nat) (R : List HP) : List HP := pt zb sY :: pt br (ag [eg] 217) :: R
theorem a7m p s b1 b2 b3 d1 d2 d3 i ws : hZ (ka p s b1 b2 b3) i ws (List.replicate (bI (ka p s b1 b2 b3)) cm) (dv (ka p s b1 b2 b3) (bI (ka p s b1 b2 b3))) = hZ (ka p s d1 d2 d3) i ws (List.replicate (bI (ka p s d1 d2 d3)) cm) (dv (ka p s d1 d2 d3) (bI (ka p s d1 d2 d3))) := rfl
theorem Nm {pg pg'} (h : ∀ t : Nat, aK pg t = aK pg' t) : ∀ k, dH pg k = dH pg' k
 | 0 => rfl
 | k + 1 => by rw [dH, dH, Nm h k, h k]
theorem C3 {len pg} {t f : Nat} (c : t < 8) (a : aK pg t = true) (b : (bF pg t).1 = f) (d : f < len) : iL len pg (64 * t) 64 = true := by
 refine (sK (n := 64)).2 ⟨by omega, fun i g => ?_⟩;have e : gW (64 * t + i) = (t : Int) := by unfold gW; omega
 rw [e];unfold jh;rw [a, b, Qah (by omega), Qah (by omega)]; rfl
theorem a7n {fr fr' pg pg'} {t f b : Nat} (g : t < 8) (k : aK pg t = true) (c : aK pg' t = true) (h : (bF pg t).1 = f) (a : (bF pg' t).1 = b) (l : f < fr.length) (d : b < fr'.length) (e : fr.getD f [] = fr'.getD b []) : ia fr pg (64 * t) 64 = ia fr' pg' (64 * t) 64 := by
 rw [ia, Qad (C3 g k h l), ia, Qad (C3 g c a d)];refine List.map_congr_left fun i m => ?_;have j : i < 64 := by simpa using m
 have n : gW (64 * t + i) = (t : Int) := by unfold gW; omega
 unfold oN mM;rw [n, h, a];have o : dN fr.length (f : Int) = true := by simp only [dN, Qaj]; omega
 have p : dN fr'.length (b : Int) = true := by simp only [dN, Qaj]; omega
 unfold jR;rw [o, p, Qad rfl, Qad rfl, Qae, Qae, e]
theorem a7o z d (b : d < 3) : sQ W0 31 [pV (Gd z d)] (pt z.q0 (qO true bT) :: pt z.q1 (qO true bT) :: pt z.q2 (qO true bT) :: R) (.agg (JG bT).toArray) (pt z.q0 (qO true bT) :: pt z.q1 (qO true bT) :: pt z.q2 (qO true bT) :: R) := by
 have : d = 0 ∨ d = 1 ∨ d = 2 := by omega
 rcases this with rfl | rfl | rfl
 exact lK qe (ge (Er z.q0 bT) fun v B a => by
  obtain ⟨rfl, rfl⟩ := a
  exact ⟨_, ⟨rfl, rfl⟩, inferInstance⟩)
 exact lK qe (ge (Er z.q1 bT) fun v B a => by
  obtain ⟨rfl, rfl⟩ := a
  exact ⟨_, ⟨rfl, rfl⟩, inferInstance⟩)
 exact lK qe (ge (Er z.q2 bT) fun v B a => by
  obtain ⟨rfl, rfl⟩ := a
  exact ⟨_, ⟨rfl, rfl⟩, inferInstance⟩)
theorem a7p {L T} (h : TI L T) (e : L = []) : tD L T = [] := by
 subst e
 cases T with
 | nil => rfl
 | cons y T => obtain ⟨z, a, _⟩ := h.sub y (by simp); cases a
theorem a7q W0 (hK : ∀ A, bC (aQ W0 A) 1 0 j9) (hH : ∀ A, bC (aQ W0 A) 0 0 kX) (p C : Nat) (hp : p < 256) (yn : C < 256) aw ab cw cb ws as_ (za : vp W0 aw 1 iP ws) (y7 : ∀ y ∈ ws, y < 4294967296) (y8 : ws.length < 9223372036854775808) (y9 : ws.length ≤ cw) (zb : vp W0 ab 3 re as_) (zc : ∀ a ∈ as_, a.w < 4294967296) (w7 : as_.length < 9223372036854775808) : sP W0 4 [.int .u8 p, .int .u8 C, .slice aw ws.length cw, .slice ab as_.length cb] [] (fun v B => v = .bool true) := by
 have hP := Mx p;have I := a5j p C;have y2 := My (l6 p) (by omega) hP.1 (pR p C) (by omega) I;refine am OP ntmps4 ?_;refine aD rfl (aC OM (FO p C hp yn)) ?_;rintro _ B_ ⟨b1, b2, b3, rfl, q⟩;obtain rfl := q.symm;refine N5 (fun v _ => v = .bool true) (fun v B hv => ⟨[], hv, N7 (A := [_, _, _])⟩) fun W hW => ?_;have x8 := y2 b1 b2 b3;have xt : CfK W (ka (l6 p) (pR p C) b1 b2 b3) := FP hW;have xh : ∀ A, cG (aQ W A) aw 1 iP ws := ux hW (HT za);have yo : ∀ A, cG (aQ W A) ab 3 re as_ := ux hW (HT zb);have yp := xV hW (hK _);have yq := xV hW (hH _);clear hW;have xk := a7m (l6 p) (pR p C) b1 b2 b3;obtain ⟨Q, xu⟩ : ∃ c, ka (l6 p) (pR p C) b1 b2 b3 = c := ⟨_, rfl⟩
 have x9 : 0 < Q.gl.length := by rw [← xu]; show 0 < 2; decide
 rw [xu] at x8 xt xk;rw [xu];have hM := FQ x8 x9 ws;have hR := jC x8;have w8 := AS hR x9;have w9 := hR.nd;have wa := hR.gs 0 x9;have wc := a7k (dv Q (bI Q)) 0;have ya := a6L Q 0 ws (List.replicate (bI Q) cm) (dv Q (bI Q));obtain ⟨n, hn⟩ : ∃ n : Nat, (cT Q 0).2.1 = (n : Int) := ⟨(cT Q 0).2.1.toNat, by omega⟩
 refine au 1 ?_;refine aD rfl (aC ON (N3 Q xt x8 0 x9 aw cw ws xh y7 y8 y9)) ?_;rintro _ B_ ⟨G, z0, wg, wb, xl, rfl, zd, xm, ze, zf, zg, zi, q⟩;obtain rfl := q.symm;have xb := fun d1 d2 d3 => (xk d1 d2 d3 0 ws).symm;obtain ⟨F, xv⟩ : ∃ x, hZ Q 0 ws (List.replicate (bI Q) cm) (dv Q (bI Q)) = x := ⟨_, rfl⟩
 rw [xv] at hM ya ⊢;simp only [xv] at xb;have yr : 0 < F.po.length := by
  rw [ya.1];show 0 < (dv Q (bI Q)).length;rw [nK, bI];omega
 have y3 : n ≤ lY 0 F.po := by
  rw [ya.par];show n ≤ lY 0 (dv Q (bI Q));omega
 clear xk;refine au 15 ?_;refine aD rfl (aC OM (FO p C hp yn)) ?_;rintro _ B_ ⟨d1, d2, d3, rfl, q⟩;obtain rfl := q.symm;have ys : 0 < (ka (l6 p) (pR p C) d1 d2 d3).gl.length := by show 0 < 2; decide
 refine au 1 ?_;refine aD rfl (aC ON (Zq fun W2 yt => N4 W2 [] _ (FP yt) (y2 d1 d2 d3) 0 ys aw cw ws (ux yt (xh _)) y7 y8 y9)) ?_;rintro _ B_ ⟨C_, ⟨R, H, wd, we, rfl, wf, wh, wi, zj⟩, q⟩;obtain rfl := zj.symm;obtain rfl := q.symm;rw [xb];simp only [Qay, Qaw];obtain ⟨D, hD⟩ : ∃ D : Dg W, D = ⟨Q, 0, n, wg, aZ ws 8, aw, cw, ws, F, z0.bx, xl.bx, xt, x8, x9, hn, y3, yr, rfl, xh, y7, y8, y9⟩ := ⟨_, rfl⟩
 have xn : D.wg = wg ∧ D.wl = aZ ws 8 ∧ D.bx = z0.bx ∧ D.br = xl.bx := by rw [hD]; exact ⟨rfl, rfl, rfl, rfl⟩
 have V : D.c = Q ∧ D.i = 0 ∧ D.x0 = F ∧ D.n = n ∧ D.wl = aZ ws 8 := by rw [hD]; exact ⟨rfl, rfl, rfl, rfl, rfl⟩
 have zk : DInv D 0 z0 xl g0 F [] [] := by
  rw [hD];exact ⟨zd, xm, ze, rfl, zf, zg, zi, rfl, GOk.new (by omega), hM, l7.rfl' F, LRel.new, TRel.new, QaF _, l8.rfl' F⟩
 obtain ⟨RR, yb⟩ : ∃ RR, RR = a7l D.bx D.br (gA R H g0 F (aY H.ps F.fr :: [])) := ⟨_, rfl⟩
 refine eD (B := dW G wb D.wg z0 xl g0 F [] [] 0 D.wl RR) (by rw [yb, xn.1, xn.2.1, xn.2.2.1, xn.2.2.2]; exact inferInstance) ?_;clear xu xh hD xn xb;refine au 17 ?_;refine cy rfl rfl rfl (fun xo => ?_) fun xo => ?_
 first | cases xo | exact absurd xo (by simp)
 refine au 5 ?_;refine cy rfl rfl rfl (fun xp => ?_) fun xp => ?_
 first | cases xp | exact absurd xp (by simp)
 refine au 5 ?_;refine cy rfl rfl rfl (fun xc => ?_) fun xc => ?_
 first | cases xc | exact absurd xc (by simp)
 refine au 6 ?_;refine aA rfl (fun c3 => ?_) fun c3 => ?_
 first | cases c3 | exact absurd c3 (by simp)
 refine au 2 ?_;refine cF (fun Z : Gz × Gu × Mm => ∃ zr L T, DInv D 60 Z.1 zr Z.2.1 Z.2.2 L T) (fun Z => [(9, pV G), (13, pV R)]) (fun Z => gA G Z.1 Z.2.1 Z.2.2 (cR Z.1.pb (Z.1.ps, Z.2.2.po) :: aY Z.1.ps Z.2.2.fr :: pt D.wg (ag (D.wl.map wV) 38) :: gA R H g0 F (aY H.ps F.fr :: []))) ?_ ?_;refine au 6 ?_;refine d4 (fun Z : Nat × Gz × Rz × Gu × Mm × List Nat × List (Int × Int) × Nat => Z.1 ≤ 60 ∧ DInv D Z.1 Z.2.1 Z.2.2.1 Z.2.2.2.1 Z.2.2.2.2.1 Z.2.2.2.2.2.1 Z.2.2.2.2.2.2.1) (fun Z => [(3, .slice ab as_.length cb), (9, pV G), (10, pV wb), (13, pV R), (17, iQ Z.1)]) (fun Z => dW G wb D.wg Z.2.1 Z.2.2.1 Z.2.2.2.1 Z.2.2.2.2.1 Z.2.2.2.2.2.1 Z.2.2.2.2.2.2.1 Z.2.2.2.2.2.2.2 D.wl RR) (fun Z => 60 - Z.1) (0, z0, xl, g0, F, [], [], 0) ?_ ?_;exact ⟨QaF _, zk⟩;intro ⟨k, z, zr, g, x, L, T, d⟩ ⟨hk, hI⟩;dsimp only at hk hI ⊢;refine au 8 ?_;refine bO (fun yu => ?_) fun yu => ?_;refine ai (fun c6 => ?_) fun c6 => ?_;have yc : k < as_.length := by omega
 have w4 : k < 60 := by omega
 obtain ⟨ga, o, S, hc⟩ := (yo []).at_ yc;obtain ⟨a, ha⟩ : ∃ a, as_[k] = a := ⟨_, rfl⟩
 have yv := zc _ (QaG yc);rw [ha] at hc yv;refine aa (eB NM sizeOf40 rfl S rfl rfl yc (by first | exact Qac _ | rfl)) ?_;refine aa (df hc.weak) ?_;refine aD rfl (aC call7 (a62 yp yq D G wb k (by omega) z zr g x L T d hI a yv)) ?_;rintro _ B_ ⟨rfl, h, zl, g2, x2, L2, T2, d2, q, zm⟩;obtain rfl := q.symm;refine au 5 ?_;refine aa bY ?_;exact bR (k + 1, h, zl, g2, x2, L2, T2, d2) (⟨by omega, zm⟩);refine bu (z, g, x) ?_ (he := ?_);exact ⟨zr, L, T, hI.le hk⟩;rw [yb];exact IO;refine bu (z, g, x) ?_ (he := ?_);exact ⟨zr, L, T, hI.le hk⟩;rw [yb];exact IO;intro ⟨z, g, x⟩ ⟨zr, L, T, hI⟩;refine au 1 ?_;dsimp only at hI ⊢;have xq : z.i = 0 := hI.i.trans V.2.1;have xw : z.c = Q := hI.c.trans V.1;have yd : GMem 0 x := by rw [← V.2.1]; exact hI.m
 have zn : l8 F x := by rw [← V.2.2.1]; exact hI.f
 have ye : n ≤ lY 0 x.po := by
  have e := hI.s.par (i := 0);rw [V.2.2.1] at e;rw [e]; exact y3
 have yw : g.clock < 1000000000 := by have := hI.ok.clk; omega
 have wj : g.c.rl.length = 16 := hI.ok.c.r.len;have yx : 0 < x.po.length := by
  have := hI.s.1;rw [V.2.2.1] at this;rw [this]; exact yr
 have wk := hI.e;have y4 := D.wlb;have yy : aZ D.wl n = aZ ws n := by
  have h8 := D.n8;rw [V.2.2.2.1] at h8;rw [V.2.2.2.2, aZ, aZ, aZ, Qdb, Qbg (by omega)]
 have zo : n ≤ 8 := by have := D.n8; rw [V.2.2.2.1] at this; exact this
 obtain ⟨yf, yz⟩ := a67 x8 x9 hn yy xv yd zn ye;have S := yd.anew (ws := D.wl) (by decide) zo ye;obtain ⟨U, z1⟩ : ∃ y, gC 0 n D.wl x = y := ⟨_, rfl⟩
 rw [z1] at yf yz S;have y5 := Nm yf 12;have zp : (fe g).es.length = if g.es.length < 4096 then g.es.length + 1 else g.es.length := by
  show (ov g.es _).length = _;unfold ov;split;rw [Qaf, QbD];rfl
 have zq : z.wv = .slice (some ⟨D.wg, 0, none⟩) D.wl.length D.wl.length := hI.w;clear hI xv;refine au 2 ?_;refine ah (ap OO (FJ W _ G z g)) ?_;refine ah (ap call17 (Mq W _ G z g)) ?_;refine ah (ap call18 (Kc z.tr g.es)) ?_;refine aD rfl (ua call19 rfl (Mv W _ G z g (by rw [xw]; exact xt) (by rw [xw]; exact x8) (by rw [xw, xq]; exact x9) yw x (by rw [xq]; exact yd) yx n (by rw [xw, xq]; exact hn) (by rw [xq]; exact ye) (some ⟨D.wg, 0, none⟩) D.wl.length D.wl zq (by intro A hA; refine cG.weak (k := hA) ?_; exact rB (b := D.wg) (fun _ => rfl) (JH D.wl).symm) y4.1 y4.2)) ?_;rintro _ B_ ⟨y, yg, yh, q0, q1, q2, rfl, q⟩;obtain rfl := q.symm;rw [xq, z1];obtain ⟨h, xm⟩ : ∃ h, ({ z with x := y, q0 := q0, q1 := q1, q2 := q2, i := 0 } : Gz) = h := ⟨_, rfl⟩
 have hy : h.x = y ∧ h.q0 = q0 ∧ h.q1 = q1 ∧ h.q2 = q2 ∧ h.pv = z.pv ∧ h.ps = z.ps ∧ h.pm = z.pm ∧ h.tr = z.tr ∧ h.i = 0 := by rw [← xm]; exact ⟨rfl, rfl, rfl, rfl, rfl, rfl, rfl, rfl, rfl⟩
 obtain ⟨k1, k2, k3, k4, k5, k6, k7, k8, k9⟩ := hy;refine eD (B := pt G (cH h (fe g)) :: pt h.x.r (dD (List.replicate 16 0) 0) :: pt h.x.c (dZ lX h.i) :: fJ h.tr (fe g).es :: aY h.ps U.fr :: pt h.x.m (cD h.pv yg yh) :: aU yg ([], cX 4 0) :: bG yh [] :: pt h.pv (bW h.ps h.pm 0) :: pt h.pm (bB U.pg) :: lw h.x.v (uR, 0) :: lx h.x.t wy :: pt h.q0 (qO true bT) :: pt h.q1 (qO true bT) :: pt h.q2 (qO true bT) :: gA R H g0 F (aY H.ps F.fr :: [])) (by rw [xm, k1, k2, k3, k4, k5, k6, k7, k8, k9]; exact inferInstance) ?_;clear xm k1 k2 k3 k4 k5 k6 k7 k8 k9;refine au 2 ?_;refine cy rfl rfl rfl (fun xd => ?_) fun xd => ?_
 first | cases xd | exact absurd xd (by simp)
 refine au 2 ?_;refine ah (ap OO (FJ W _ G h (fe g))) ?_;refine cy rfl rfl rfl (fun X => ?_) fun X => ?_
 first | cases X | exact absurd X (by simp)
 refine au 2 ?_;refine ah (ap call17 (Mq W _ G h (fe g))) ?_;refine ah (ap call18 (Kc h.tr (fe g).es)) ?_;refine aa bY ?_;refine aa (sF rfl rfl (show _ = (((fe g).es.length : Nat) : Int) by rw [zp]; split <;> split <;> omega)) ?_;refine cy rfl rfl rfl (fun Y => ?_) fun Y => ?_
 first | cases Y | exact absurd Y (by simp)
 refine au 2 ?_;refine ah (cq Ha (BC W _ G h (fe g) rfl)) ?_;refine ah (cq Ha (BC W _ R H g0 rfl)) ?_;refine aa (zL Tryz.eqGuardType70 rfl rfl (AM (i := Tryz.t38) (ms := (List.replicate 16 0).map Int.ofNat) (ns := (List.replicate 16 0).map Int.ofNat) Cg (by kernel_rfl) (by kernel_rfl) tJ mw rfl rfl rfl rfl)) ?_;refine cy rfl rfl rfl (fun x1 => ?_) fun x1 => ?_
 first | cases x1 | exact absurd x1 (by simp)
 refine au 2 ?_;refine aD rfl (wZ call21 rfl (Mr W _ G h (fe g) rfl)) ?_;rintro _ B_ ⟨rfl, q⟩;obtain rfl := q.symm;refine cI rfl rfl (ae rfl (nt rfl rfl) (ae rfl (iu rfl rfl) (ae rfl (aM rfl) ?_)));refine cy rfl rfl rfl (fun x3 => ?_) fun x3 => ?_
 first | cases x3 | exact absurd x3 (by simp)
 refine au 2 ?_;refine ah (cq call22 (Nl G h (fe g) C1.cs)) ?_;refine ah (cq call22 (Nl R H g0 C1.cs)) ?_;refine aa (zL Tryz.eqGuardType73 rfl rfl (AM (i := Tryz.t38) (ms := lX.map Int.ofNat) (ns := lX.map Int.ofNat) iC (by kernel_rfl) (by kernel_rfl) tJ mw rfl rfl rfl rfl)) ?_;refine cy rfl rfl rfl (fun x4 => ?_) fun x4 => ?_
 first | cases x4 | exact absurd x4 (by simp)
 refine au 2 ?_;refine dV 3 (ap call23 (a5a W _ G h (fe g))) ?_;refine aA rfl (fun yi => ?_) fun yi => ?_
 first | cases yi | exact absurd yi (by simp)
 refine au 5 ?_;refine ah (ap CL (yO W _ G h (fe g))) ?_;refine ah (ap sg (qt h.pv h.ps h.pm 0)) ?_;refine aD rfl (ap call13 (Nj h.pm U.pg S.pg)) ?_;rintro _ B_ ⟨a1, J, rfl, q⟩;obtain rfl := q.symm;rw [y5];refine au 6 ?_;refine ah (ap CL (yO W _ R H g0)) ?_;refine ah (ap sg (a68 W _ H.x.m H.pv H.ps H.pm g0.bud F.fr F.pg)) ?_;refine aD rfl (ap call13 (a69 W _ H.x.m H.pv H.ps H.pm g0.bud F.fr F.pg)) ?_;rintro _ B_ ⟨a2, N, rfl, q⟩;obtain rfl := q.symm;have z3 := C2 F.pg 12;have zs := Gc F.pg 12;obtain ⟨u, y6⟩ : ∃ l, dH F.pg 12 = l := ⟨_, rfl⟩
 rw [y6] at z3 zs ⊢;clear y6 y5;refine au 3 ?_;refine cF (fun _ : Unit => True) (fun _ => [(9, pV G), (13, pV R), (20, .slice a1 u.length J), (21, .slice a2 u.length N)]) (fun _ => osl 3 1 (.slice a1 u.length J) (u.map nI) :: osl 3 1 (.slice a2 u.length N) (u.map nI) :: pt G (cH h (fe g)) :: aY h.ps U.fr :: pt h.pv (bW h.ps h.pm 0) :: pt h.pm (bB U.pg) :: pt h.q0 (qO true bT) :: pt h.q1 (qO true bT) :: pt h.q2 (qO true bT) :: gA R H g0 F (aY H.ps F.fr :: [])) ?_ ?_;refine au 8 ?_;refine cy rfl rfl rfl (fun xe => ?_) fun xe => ?_
 first | cases xe | exact absurd xe (by simp)
 refine au 2 ?_;refine ah (ap call24 (Mo W _ G h (fe g))) ?_;refine aD rfl (ap call25 (a7i h.x.v uR 0)) ?_;rintro _ B_ ⟨a3, wm, rfl, q⟩;obtain rfl := q.symm;refine au 6 ?_;refine cy rfl rfl rfl (fun K => ?_) fun K => ?_
 first | cases K | exact absurd K (by decide) | exact absurd rfl K | exact absurd K (by simp)
 refine au 2 ?_;refine ah (ap call26 (Mp W _ G h (fe g))) ?_;refine ah (ap call27 (a7j h.x.t wy)) ?_;refine cy rfl rfl rfl (fun x5 => ?_) fun x5 => ?_
 first | cases x5 | exact absurd x5 (by simp)
 refine au 2 ?_;refine aD rfl (gU call8 rfl (a7g W _ G h (fe g))) ?_;rintro _ B_ ⟨rfl, q⟩;obtain rfl := q.symm;refine cI rfl rfl ?_;refine aD rfl (lM call9 rfl (a6W W _ h.x.m h.pv yg yh h.ps h.pm 0 [] 4 0 [] [] U.fr U.pg Rep.nil (by decide) (by decide) (FK S.fr S.pg S.pl))) ?_;rintro _ B_ ⟨a4, wn, w5, T4, L4, rfl, q, wo, wp, zt, zu⟩;obtain rfl := q.symm;rw [a7p zt.ti (zu rfl)];refine au 6 ?_;refine cy rfl rfl rfl (fun M => ?_) fun M => ?_
 first | cases M | exact absurd M (by decide) | exact absurd rfl M | exact absurd M (by simp)
 refine au 2 ?_;refine aD rfl (gU call28 rfl (a7f W _ G h (fe g) 0 (by decide))) ?_;rintro _ B_ ⟨rfl, q⟩;obtain rfl := q.symm;refine cI rfl rfl (ae rfl (nt rfl rfl) (ae rfl (iu rfl rfl) (aL (aH ?_))));refine aA rfl (fun xr => ?_) fun xr => ?_
 first | cases xr | exact absurd xr (by decide) | exact absurd rfl xr | exact absurd xr (by simp)
 refine au 2 ?_;exact bu () trivial;intro _ _;refine cF (fun _ : Unit => True) (fun _ => [(9, pV G), (13, pV R), (20, .slice a1 u.length J), (21, .slice a2 u.length N)]) (fun _ => osl 3 1 (.slice a1 u.length J) (u.map nI) :: osl 3 1 (.slice a2 u.length N) (u.map nI) :: pt G (cH h (fe g)) :: aY h.ps U.fr :: pt h.pv (bW h.ps h.pm 0) :: pt h.pm (bB U.pg) :: pt h.q0 (qO true bT) :: pt h.q1 (qO true bT) :: pt h.q2 (qO true bT) :: gA R H g0 F (aY H.ps F.fr :: [])) ?_ ?_;refine au 6 ?_;refine d4 (fun j : Nat => j ≤ u.length) (fun j => [(9, pV G), (13, pV R), (20, .slice a1 u.length J), (21, .slice a2 u.length N), (22, iQ j)]) (fun _ => osl 3 1 (.slice a1 u.length J) (u.map nI) :: osl 3 1 (.slice a2 u.length N) (u.map nI) :: pt G (cH h (fe g)) :: aY h.ps U.fr :: pt h.pv (bW h.ps h.pm 0) :: pt h.pm (bB U.pg) :: pt h.q0 (qO true bT) :: pt h.q1 (qO true bT) :: pt h.q2 (qO true bT) :: gA R H g0 F (aY H.ps F.fr :: [])) (fun j => u.length - j) 0 ?_ ?_;exact QaF _;intro j hj;refine au 8 ?_;refine bO (fun yj => ?_) fun yj => ?_;refine ai (fun zv => ?_) fun zv => ?_;have O : j < u.length := by omega
 refine m9 (E := 3) (sz := 1) (a := a1) (n := u.length) (c := J) (fun n => [nI n]) u (fun _ => rfl) (by decide) (As nI u).symm fun yk => ?_;obtain ⟨xx, o3, x6, P⟩ := yk.at_ O;refine m9 (E := 3) (sz := 1) (a := a2) (n := u.length) (c := N) (fun n => [nI n]) u (fun _ => rfl) (by decide) (As nI u).symm fun zw => ?_;obtain ⟨zx, o4, z4, z5⟩ := zw.at_ O;obtain ⟨y, hy⟩ : ∃ y, u[j] = y := ⟨_, rfl⟩
 rw [hy] at P z5;refine au 5 ?_;refine fj [(xx, o3 + j * 1, [nI y]), (zx, o4 + j * 1, [nI y])] 9 mixed rfl (bU P.weak (bU z5.weak bH)) (fun I => ?_);refine aj 0 2 I ?_;refine ax 2 I (eB ek aR rfl x6 rfl rfl O (by first | exact Qac _ | rfl)) ?_;refine ax 3 I (aE (jt (k := 0) rfl)) ?_;refine aj 4 2 I ?_;refine ax 6 I (eB ek aR rfl z4 rfl rfl O (by first | exact Qac _ | rfl)) ?_;refine ax 7 I (aE (jt (k := 1) rfl)) ?_;refine aj 8 1 I ?_;refine aJ ?_;refine aA rfl (fun xy => ?_) fun xy => ?_
 first | cases xy | exact absurd rfl xy | exact absurd xy (by simp)
 refine au 5 ?_;refine aa bY ?_;exact bR (j + 1) (by omega);exact bu () trivial;exact bu () trivial;intro _ _;refine cF (fun _ : Unit => True) (fun _ => [(9, pV G)]) (fun _ => pt G (cH h (fe g)) :: pt h.q0 (qO true bT) :: pt h.q1 (qO true bT) :: pt h.q2 (qO true bT) :: []) ?_ ?_;refine au 6 ?_;refine d4 (fun j : Nat => j ≤ u.length) (fun j => [(9, pV G), (13, pV R), (20, .slice a1 u.length J), (21, .slice a2 u.length N), (23, iQ j)]) (fun _ => osl 3 1 (.slice a1 u.length J) (u.map nI) :: osl 3 1 (.slice a2 u.length N) (u.map nI) :: pt G (cH h (fe g)) :: aY h.ps U.fr :: pt h.pv (bW h.ps h.pm 0) :: pt h.pm (bB U.pg) :: pt h.q0 (qO true bT) :: pt h.q1 (qO true bT) :: pt h.q2 (qO true bT) :: gA R H g0 F (aY H.ps F.fr :: [])) (fun j => u.length - j) 0 ?_ ?_;exact QaF _;intro j hj;refine au 8 ?_;refine bO (fun yl => ?_) fun yl => ?_;have O : j < u.length := by omega
 refine m9 (E := 3) (sz := 1) (a := a1) (n := u.length) (c := J) (fun n => [nI n]) u (fun _ => rfl) (by decide) (As nI u).symm fun yk => ?_;obtain ⟨xx, o3, x6, P⟩ := yk.at_ O;obtain ⟨xi, w6, wq⟩ := z3 j O;obtain ⟨y, hy⟩ : ∃ y, u[j] = y := ⟨_, rfl⟩
 have zy : u.getD j 0 = y := by simp [List.getD, O, hy]
 rw [zy] at xi;rw [hy] at P;refine au 4 ?_;refine aa (eB ek aR rfl x6 rfl rfl O (by first | exact Qac _ | rfl)) ?_;refine aa (aE (P.weak 0 _ rfl)) ?_;refine aA rfl (fun zz => ?_) fun zz => ?_;have xz : y < 8 := by omega
 have xs : aK U.pg (y : Int) = true := by rw [yf]; exact xi
 obtain ⟨f1, e1, e2, _⟩ := S.at_ xs;obtain ⟨f2, e3, e4, _⟩ := hM.at_ xi;have z6 := yz y xz xi;rw [e1, e3, Qae, Qae] at z6;have z7 := a7n xz xs xi e1 e3 e2 e4 z6;have w0 := C3 xz xs e1 e2;have z8 := C3 xz xi e3 e4;have x7 : (ia F.fr F.pg (64 * y) 64).length = 64 := by rw [ia, Qad z8]; exact uk _ _ _ _
 obtain ⟨bl, z9⟩ : ∃ l, ia F.fr F.pg (64 * y) 64 = l := ⟨_, rfl⟩
 rw [z9] at z7 x7;refine au 4 ?_;refine cF (fun Z : Option Addr × Nat => True) (fun Z => [(9, pV G), (13, pV R), (20, .slice a1 u.length J), (21, .slice a2 u.length N), (23, iQ j), (24, .slice Z.1 64 Z.2), (25, .bool true)]) (fun Z => osl 5 1 (.slice Z.1 64 Z.2) (bS bl) :: osl 3 1 (.slice a1 u.length J) (u.map nI) :: osl 3 1 (.slice a2 u.length N) (u.map nI) :: pt G (cH h (fe g)) :: aY h.ps U.fr :: pt h.pv (bW h.ps h.pm 0) :: pt h.pm (bB U.pg) :: pt h.q0 (qO true bT) :: pt h.q1 (qO true bT) :: pt h.q2 (qO true bT) :: gA R H g0 F (aY H.ps F.fr :: [])) ?_ ?_;refine fj [(xx, o3 + j * 1, [nI y])] 14 mixed rfl (bU P.weak bH) (fun I => ?_);refine aj 0 1 I ?_;refine aj 2 2 I ?_;refine ax 4 I (eB ek aR rfl x6 rfl rfl O (by first | exact Qac _ | rfl)) ?_;refine ax 5 I (aE (jt (k := 0) rfl)) ?_;refine ax 6 I (ko (64 * y)) ?_;refine ax 7 I (bD (cW (by omega))) ?_;refine gy 1 rfl rfl (ap CL (yO W _ G h (fe g))) (bU P.weak bH) fun I => ?_;refine cj 8 (cM O8 (DK h.pv h.ps h.pm 0 U.fr U.pg S.pg S.fr (64 * y) (by omega) 64)) ?_; clear I;rintro _ B_ ⟨a5, xj, rfl, q⟩;obtain rfl := q.symm;rw [z7, w0, x7];refine ⟨(bU P.weak bH), fun I => ?_⟩;refine aj 9 5 I ?_;refine aJ ?_;exact bu (a5, xj) trivial;intro ⟨a5, xj⟩ _;refine cF (fun Z : Option Addr × Nat => True) (fun Z => [(9, pV G), (13, pV R), (20, .slice a1 u.length J), (21, .slice a2 u.length N), (23, iQ j), (24, .slice a5 64 xj), (25, .bool true), (26, .slice Z.1 64 Z.2), (27, .bool true)]) (fun Z => osl 5 1 (.slice Z.1 64 Z.2) (bS bl) :: osl 5 1 (.slice a5 64 xj) (bS bl) :: osl 3 1 (.slice a1 u.length J) (u.map nI) :: osl 3 1 (.slice a2 u.length N) (u.map nI) :: pt G (cH h (fe g)) :: aY h.ps U.fr :: pt h.pv (bW h.ps h.pm 0) :: pt h.pm (bB U.pg) :: pt h.q0 (qO true bT) :: pt h.q1 (qO true bT) :: pt h.q2 (qO true bT) :: gA R H g0 F (aY H.ps F.fr :: [])) ?_ ?_;refine fj [(xx, o3 + j * 1, [nI y])] 14 mixed rfl (bU P.weak bH) (fun I => ?_);refine aj 0 1 I ?_;refine aj 2 2 I ?_;refine ax 4 I (eB ek aR rfl x6 rfl rfl O (by first | exact Qac _ | rfl)) ?_;refine ax 5 I (aE (jt (k := 0) rfl)) ?_;refine ax 6 I (ko (64 * y)) ?_;refine ax 7 I (bD (cW (by omega))) ?_;refine gy 1 rfl rfl (ap CL (yO W _ R H g0)) (bU P.weak bH) fun I => ?_;refine cj 8 (cq O8 (a7a W _ H.x.m H.pv H.ps H.pm g0.bud F.fr F.pg (64 * y) (by omega) 64)) ?_; clear I;rintro _ B_ ⟨a6, y0, rfl, q⟩;obtain rfl := q.symm;rw [z9, z8, x7];refine ⟨(bU P.weak bH), fun I => ?_⟩;refine aj 9 5 I ?_;refine aJ ?_;exact bu (a6, y0) trivial;intro ⟨a6, y0⟩ _;refine au 1 ?_;refine sH (E := 5) (sz := 1) (a := a5) (c := xj) (n := 64) (fun w1 => ?_);refine sH (E := 5) (sz := 1) (a := a6) (c := y0) (n := 64) (fun w2 => ?_);refine au 4 ?_;refine cy rfl rfl rfl (fun xf => ?_) fun xf => ?_
 first | cases xf | exact absurd xf (by simp)
 refine au 5 ?_;refine cy rfl rfl rfl (fun xg => ?_) fun xg => ?_
 first | cases xg | exact absurd xg (by simp)
 refine au 2 ?_;refine aa (JE m0 Gf Om rfl x7 (Di w1 (uc (E := 5) (sz := 1) (a := a5) (c := xj) (n := 64)) (fun _ => rfl) (Ei _).symm (by decide))) ?_;refine aa (JE m0 Gf Om rfl x7 (Di w2 (uc (E := 5) (sz := 1) (a := a6) (c := y0) (n := 64)) (fun _ => rfl) (Ei _).symm (by decide))) ?_;refine aa (OY rfl rfl) ?_;refine aA rfl (fun ym => ?_) fun ym => ?_
 first | cases ym | exact absurd ym (by simp)
 refine au 5 ?_;refine aa bY ?_;exact bR (j + 1) (by omega);refine au 5 ?_;exact bu () trivial;exact bu () trivial;intro _ _;refine au 7 ?_;refine d4 (fun d : Nat => d ≤ 3) (fun d => [(9, pV G), (28, iQ d)]) (fun _ => pt G (cH h (fe g)) :: pt h.q0 (qO true bT) :: pt h.q1 (qO true bT) :: pt h.q2 (qO true bT) :: []) (fun d => 3 - d) 0 ?_ ?_;exact QaF _;intro d hd;refine au 7 ?_;refine ai (fun w3 => ?_) fun w3 => ?_;refine ah (ap call30 (a7d W _ G h (fe g) d (by omega))) ?_;refine ah (cM call31 (a7o h d (by omega))) ?_;refine aa (zL Tryz.eqGuardType86 rfl rfl (tU a8u Tryz.stoodInHeld86 (Hn rfl (Hm isAgg84 NF TakeL.eq) (Hm isAgg84 NF TakeL.eq) (tU underlying84 Tryz.stoodInHeld84 (li rfl mw rfl rfl (lH tJ) (li rfl mw rfl rfl (lH tJ) (li rfl mw rfl rfl (lH tJ) (li rfl di rfl rfl (lH jI) tT))))) (li rfl nk rfl rfl (CX a8D) (li rfl di rfl rfl (lH jI) (li rfl di rfl rfl (lH jI) (li rfl di rfl rfl (lH jI) tT))))))) ?_;refine aA rfl (fun y1 => ?_) fun y1 => ?_
 first | cases y1 | exact absurd y1 (by simp) | exact absurd y1 (by decide)
 refine au 5 ?_;refine aa bY ?_;exact bR (d + 1) (by omega);refine ah (aC call15 (a6H yp yq)) ?_;refine ac ?_;exact ⟨[], rfl, IO⟩
end
section
open Go.RowKit
section
variable {P : Program} {w : World} {enc : TypeId × Value → Unit} {base : Nat} {sp : Nat → Bool} {held : Bool}
theorem Ge {c t cs a b f0 f1 p} (m : P.underlying t = some (.struct #[f0, f1])) (n : P.underlying f0.type = some (.int .i64)) (o : P.underlying f1.type = some (.int .i64)) (q : f0.offset = 0) (r : f1.offset = 1) (s : P.cellsOf f0.type = 1) (x : P.cellsOf f1.type = 1) (y : P.cellsOf t = 2)
    (h : DataW.trod enc P w base sp held c t cs = some (.agg [.lit (.int .i64 a), .lit (.int .i64 b)], p)) : cs = [.int .i64 a, .int .i64 b] := by
 cases c with
 | zero => simp [DataW.trod] at h
 | succ c =>
  simp only [DataW.trod, m] at h;split at h
  rename_i j
  rw [y] at j;obtain ⟨z, f, A⟩ := Option.map_eq_some_iff.1 h;obtain ⟨D, k, B⟩ := QcV f 0 f0 rfl;obtain ⟨E, l, C⟩ := QcV f 1 f1 rfl;obtain ⟨F, g, rfl, _⟩ := DataW.trod_int n B;obtain ⟨G, i, rfl, _⟩ := DataW.trod_int o C;rw [q, s] at g;rw [r, x] at i
  match cs, j with
  | [u, v], _ =>
   simp at g i;have d := Qai Prod.fst A;have e := Go.Lib.mapM_length f
   match z, e with
   | [H, I], _ =>
    simp at k l;subst k; subst l;simp at d;rw [g, i, d.1, d.2]
  cases h
theorem a7r {a t e cs f0 f1 p} (y : P.underlying t = some (.array 3 e)) (k : P.underlying e = some (.struct #[f0, f1])) (l : P.underlying f0.type = some (.int .i64)) (m : P.underlying f1.type = some (.int .i64)) (n : f0.offset = 0) (o : f1.offset = 1) (q : P.cellsOf f0.type = 1) (r : P.cellsOf f1.type = 1) (d : P.cellsOf e = 2) (z : P.cellsOf t = 6)
    (h : DataW.trod enc P w base sp held a t cs = some (.agg [.agg [.lit (.int .i64 0), .lit (.int .i64 4)], .agg [.lit (.int .i64 1), .lit (.int .i64 1)], .agg [.lit (.int .i64 2), .lit (.int .i64 2)]], p)) : cs = j9 := by
 cases a with
 | zero => simp [DataW.trod] at h
 | succ a =>
  simp only [DataW.trod, y] at h;split at h
  rename_i s
  rw [z] at s;obtain ⟨A, f, B⟩ := Option.map_eq_some_iff.1 h;obtain ⟨⟨F, G⟩, u, C⟩ := QcV f 0 0 rfl;obtain ⟨⟨H, I⟩, v, D⟩ := QcV f 1 1 rfl;obtain ⟨⟨J, K⟩, x, E⟩ := QcV f 2 2 rfl;have b := Qai Prod.fst B;have c := Go.Lib.mapM_length f
  match A, c with
  | [L, M, N], _ =>
   simp at u v x;subst u; subst v; subst x;simp at b;obtain ⟨rfl, rfl, rfl⟩ := b;have g := Ge k l m n o q r d C;have i := Ge k l m n o q r d D;have j := Ge k l m n o q r d E;rw [d] at g i j
   match cs, s with
   | [O, Q, R, S, T, U], _ =>
    simp at g i j;rw [g.1, g.2, i.1, i.2, j.1, j.2];rfl
  cases h
end
theorem a7s {W ps} (h : DataW.LaidVars Tryz.prog W [("hermitage/mmu.kinds", (.agg [.agg [.lit (.int .i64 0), .lit (.int .i64 4)], .agg [.lit (.int .i64 1), .lit (.int .i64 1)], .agg [.lit (.int .i64 2), .lit (.int .i64 2)]]))] ps) : ∀ A, bC (aQ W A) 1 0 j9 := by
 obtain ⟨m, n, g, e, p, q, b, c, a, j, _, _⟩ := h;have f : Tryz.prog.globalNamed "hermitage/mmu.kinds" = some 1 := by kernel_rfl
 obtain rfl := Qbm (f.symm.trans b);have d : (Tryz.prog.globals[1]?).map (·.type) = some 528 := by kernel_rfl
 obtain rfl := Qbm (d.symm.trans c);have k : g.toList = j9 := a7r a8A a8t jI jI rfl rfl (by kernel_rfl) (by kernel_rfl) (by kernel_rfl) (by kernel_rfl) j;intro A i v l;refine wW ?_;have := World.var?_cell f a i;rw [Qac, this, ← Array.getElem?_toList, k]; exact l
section
variable {P : Program} {w : World} {enc : TypeId × Value → Unit} {base : Nat} {sp : Nat → Bool} {held : Bool}
theorem a7t {a n t e cs} {b : List Nat} {p} (o : P.underlying t = some (.array n e)) (r : P.underlying e = some (.int .i64)) (s : P.cellsOf e = 1) (u : P.cellsOf t = n)
    (h : DataW.trod enc P w base sp held a t cs = some (.agg (b.map fun z => .lit (.int .i64 (z : Nat))), p)) : cs = b.map fun z => .int .i64 z := by
 cases a with
 | zero => simp [DataW.trod] at h
 | succ a =>
  simp only [DataW.trod, o] at h;split at h
  rename_i v
  rw [u] at v;obtain ⟨j, k, E⟩ := Option.map_eq_some_iff.1 h;have c : j.map (·.1) = b.map fun z => (.lit (.int .i64 ((z : Nat) : Int)) : DataW Unit) := by
   grind
  have f := Go.Lib.mapM_length k;rw [QcN] at f;have x : b.length = n := by
   have := Qai List.length c;simp at this; omega
  apply QaP (by simp; omega);intro i y F;have A : i < n := by omega
  obtain ⟨⟨d, q⟩, G, B⟩ := QcV k i i (by simp [A]);obtain ⟨m, l, C, _⟩ := DataW.trod_int r B;have g : (j.map (·.1))[i]? = some d := by grind
  rw [c, QcO, QaV (show i < b.length by omega)] at g;have D : d = .lit (.int .i64 m) := Qai Prod.fst C;rw [D] at g;simp at g;rw [s, QaB, Qbf y] at l;rw [(List.cons.inj l).1, List.getElem_map, g];cases h
end
theorem a7u {W ps r} (h : DataW.LaidVars Tryz.prog W (("hermitage/isa.has", (.agg (xA.map fun z => .lit (.int .i64 (z : Nat))))) :: r) ps) : (∀ A, bC (aQ W A) 0 0 kX) ∧ ∃ q, DataW.LaidVars Tryz.prog W r q := by
 obtain ⟨n, o, g, e, p, q, b, c, a, j, k, _⟩ := h;refine ⟨?_, q, k⟩;have f : Tryz.prog.globalNamed "hermitage/isa.has" = some 0 := by kernel_rfl
 obtain rfl := Qbm (f.symm.trans b);have d : (Tryz.prog.globals[0]?).map (·.type) = some 456 := by kernel_rfl
 obtain rfl := Qbm (d.symm.trans c);have l : g.toList = kX := a7t a8q jI (by kernel_rfl) (by kernel_rfl) j;intro A i v m;refine wW ?_;have := World.var?_cell f a i;rw [Qac, this, ← Array.getElem?_toList, l]; exact m
theorem a7v {W} (h : laidMet Tryz.prog [("hermitage/isa.has", (.agg (xA.map fun z => .lit (.int .i64 (z : Nat))))), ("hermitage/mmu.kinds", (.agg [.agg [.lit (.int .i64 0), .lit (.int .i64 4)], .agg [.lit (.int .i64 1), .lit (.int .i64 1)], .agg [.lit (.int .i64 2), .lit (.int .i64 2)]]))] W) :
    (∀ A, bC (aQ W A) 0 0 kX) ∧ ∀ A, bC (aQ W A) 1 0 j9 := by
 obtain ⟨c, h, _⟩ := h;obtain ⟨a, q, b⟩ := a7u h;exact ⟨a, a7s b⟩
end
end Go.Proofs.YtbhimdcapbflkaaGreatDoor
