/-
  Part 7 of the proof of GuestOwn: rules, and walks of functions. Conditions: none.
-/
import Derived.Test.YtbhimdcapbflkaaGreatDoorGuestOwnF
namespace Go.Proofs.YtbhimdcapbflkaaGreatDoor
open Go.Proofs.Tryz
set_option linter.unusedSimpArgs false
set_option linter.unusedVariables false
set_option maxRecDepth 20000
set_option linter.defProp false
set_option synthInstance.maxSize 8192
set_option synthInstance.maxHeartbeats 2000000
variable {W0 : World} {R : List HP}
section
open Go.RowKit
theorem z4 {F n P fn tmps R R'} (hR : ∀ e w, R e w → R' e w) :
    ∀ (ds : List Deferred) (u : FrameMode) (w : World), LeavesInM F n P fn tmps R ds u w → LeavesInM F n P fn tmps R' ds u w
 | [], .returning, w, h => by
  obtain ⟨v, h1, h2⟩ := (show ∃ v, (results fn tmps).run P w = .ok v w ∧ R (.returned v) w from h)
  exact ⟨v, h1, hR _ _ h2⟩
 | [], .panicking c, w, h => hR _ _ h
 | [], .run, w, h => h
 | d :: ds, u, w, h => by
  obtain ⟨hu, h⟩ := h
  refine ⟨hu, ?_⟩
  rcases h with ⟨r, w', h1, h2, h3⟩ | ⟨h0, fv, cap, f, args, h1, h2, h3, h4⟩
  exact .inl ⟨r, w', h1, h2, z4 hR ds u w' h3⟩
  refine .inr ⟨h0, fv, cap, f, args, h1, h2, h3, h4.mono ?_⟩
  intro e u' w' he
  cases e with
  | returned v => exact z4 hR ds _ _ he
  | panicked c => exact z4 hR ds _ _ he
  | outgrown => exact hR _ _ he
theorem a5V {P} {o : Oper} {a K K' Q Q'} (hk : ∀ a w, K a w → K' a w) (hq : ∀ e a w, Q e a w → Q' e a w) :
    ∀ {r : Result Next}, o.upon P a K Q r → o.upon P a K' Q' r
 | .ok (.value v) w, h => hk _ _ h
 | .ok .skip w, h => hk _ _ h
 | .ok (.defer d) w, h => hk _ _ h
 | .ok (.enter f args) w, h => Calls.mono (show Calls P f args w _ from h) (by
     intro e w' he
     cases e with
     | returned v => exact hk _ _ he
     | panicked c => exact hq _ _ _ he
     | outgrown => exact Qdb he fun a h => Qdb h fun w h => ⟨a, w, hq _ _ _ h⟩)
 | .ok (.row row args) w, h => Rows.mono (show Rows P row args w _ from h) (fun v w' he => hk _ _ he)
 | .halt (.panic v) w, h => hq _ _ _ h
theorem a5W {rd P} {o : Oper} {a K K' Q Q'} (hk : ∀ a w, K a w → K' a w) (hq : ∀ e a w, Q e a w → Q' e a w) :
    ∀ {r : Result Next}, o.uponIn (FW rd) 0 P a K Q r → o.uponIn (FW rd) 0 P a K' Q' r
 | .ok (.value v) w, h => hk _ _ h
 | .ok .skip w, h => hk _ _ h
 | .ok (.defer d) w, h => hk _ _ h
 | .ok (.enter f args) w, h => ⟨h.1, CallsIn.mono h.2 (by
     intro e w' he
     cases e with
     | returned v => exact hk _ _ he
     | panicked c => exact hq _ _ _ he
     | outgrown => exact Qdb he fun a h => Qdb h fun w h => ⟨a, w, hq _ _ _ h⟩)⟩
 | .ok (.row row args) w, h => ⟨h.1, RowsIn.mono h.2 (fun v w' he => hk _ _ he)⟩
 | .ok (.round l f tmps assign body) w, h => ⟨h.1, RoundIn.mono h.2 (by
     intro e w' he
     cases e with
     | returned v => exact hk _ _ he
     | panicked c => exact hq _ _ _ he
     | outgrown => exact Qdb he fun a h => Qdb h fun w h => ⟨a, w, hq _ _ _ h⟩)⟩
 | .halt (.panic v) w, h => hq _ _ _ h
theorem BZ {rd P ops Q Q'} (b : ∀ e a w, Q e a w → Q' e a w) : ∀ (l : List Oper) (a : Act) (w : World), bX rd P ops Q l a w → bX rd P ops Q' l a w
 | [], a, w, h => b _ _ _ h
 | o :: l, a, w, h => by
  simp only [bX] at h ⊢
  split at h
  rename_i c
  rw [Qad c]
  rcases h with h | h
  exact .inl (a5V (fun a w k => BZ b l a w k) b h)
  exact .inr ⟨h.1, a5W (fun a w k => BZ b l a w k) b h.2⟩
  rename_i c
  rw [Qaa c]
  exact BZ b l _ _ h
theorem a5X {P W0 w fn Post Post' A} (hO : Own W0 w A) (hP : ∀ v B, Post' v B → ∃ B', Post v B' ∧ Ent (B ++ A) B') :
    ∀ (ex : Exit) (a : Act) (w' : World), lF P w fn Post' ex a w' → lF P W0 fn Post ex a w' := by
 have hR : ∀ (e : Ending) (w' : World), (∃ v B, e = .returned v ∧ Post' v B ∧ Own w w' B) → ∃ v B, e = .returned v ∧ Post v B ∧ Own W0 w' B := by
  rintro e w' ⟨v, B, rfl, hp, hO'⟩
  obtain ⟨B', h1, h2⟩ := hP v B hp
  exact ⟨v, B', rfl, h1, (hO.step hO').ent h2⟩
 intro ex a w' h
 cases ex with
 | normal => exact z4 hR _ _ _ h
 | ret => exact z4 hR _ _ _ h
 | exit id => exact h
 | goto l => exact h
 | panic c => exact h
 | outgrown => exact h
theorem MU {P W0 N ops l} {y : Code} {fn Post} Post' {e A}
    (hP : ∀ v B, Post' v B → ∃ B', Post v B' ∧ Ent (B ++ A) B') (h : ∀ W, Own W0 W A → av W N (bX none P ops (Exit.then (y.wpR none P (lF P W fn Post')) (lF P W fn Post')) l) e []) :
    av W0 N (bX none P ops (Exit.then (y.wpR none P (lF P W0 fn Post)) (lF P W0 fn Post)) l) e A := by
 intro a w hF hO
 have hm := a5X (P := P) (fn := fn) hO hP
 refine BZ ?_ _ _ _ (h w hO a w hF (Own.refl w))
 intro ex a' w' hq
 cases ex with
 | normal => exact Code.wpIn_mono hm hq
 | ret => exact hm .ret a' w' hq
 | exit id => exact hm (.exit id) a' w' hq
 | goto l => exact hm (.goto l) a' w' hq
 | panic c => exact hm (.panic c) a' w' hq
 | outgrown => exact hm .outgrown a' w' hq
theorem GOk.more {z g g' N} (h : GOk z g N) (a : CpOk g'.c) (b : g'.clock ≤ g.clock + 1) (d : g'.bud ≤ g.bud + 6) (e : g'.ln ≤ g.ln + 2) (f : g'.tm.now ≤ g.tm.now + 1) : GOk z g' (N + 1) :=
  ⟨a, h.i, by have := h.clk; omega, by have := h.bud; omega, by have := h.ln; omega, by have := h.tn; omega⟩
theorem a5Y {rl e w} (h : RlOk rl) (b : e < 4294967296) (c : w < 4294967296) : RlOk (qR rl e w) := by
 have a := (h.set 1 e b).set 2 w c
 rw [j8, j8, Qaa (by decide), Qaa (by decide)] at a
 exact a
theorem z6 {g a b} (h : CpOk g.c) (d : a < 4294967296) (e : b < 4294967296) : CpOk (fI g a b).2.c := by
 unfold fI
 split
 exact h
 exact h.enter d e
theorem sh g a b : (fI g a b).2.bud = g.bud ∧ (fI g a b).2.clock = g.clock := by unfold fI; split <;> exact ⟨rfl, rfl⟩
theorem a5Z {g fr pg e} (h : CpOk g.c) (b : EfOk e) (a : cz fr) : CpOk (ii g fr pg e).1.2.c ∧ cz (ii g fr pg e).2 ∧ (ii g fr pg e).2.length = fr.length ∧ (ii g fr pg e).1.2.bud ≤ g.bud + 3 ∧ (ii g fr pg e).1.2.clock = g.clock := by
 unfold ii
 split
 unfold pq
 split
 exact ⟨z6 h (dJ _) b.addr, a, rfl, by rw [(sh _ _ _).1]; exact Qam _, (sh _ _ _).2⟩
 refine ⟨⟨h.r.set _ _ ?_, b.pc, h.cs⟩, a, rfl, Qam _, rfl⟩
 split
 exact a4g (uR a)
 exact uR a
 split
 unfold pr
 split
 exact ⟨z6 h (dJ _) b.addr, M8 a, M9, by rw [(sh _ _ _).1]; exact Qam _, (sh _ _ _).2⟩
 exact ⟨⟨h.r, b.pc, h.cs⟩, M8 a, M9, Qam _, rfl⟩
 split
 exact ⟨z6 h (by have := b.cause; omega) b.tval, a, rfl, by rw [(sh _ _ _).1]; omega, (sh _ _ _).2⟩
 split; · exact ⟨⟨h.r, b.pc, h.cs⟩, a, rfl, by show g.bud ≤ _; omega, rfl⟩
 split; · exact ⟨⟨h.r, b.pc, h.cs⟩, a, rfl, by show g.bud ≤ _; omega, rfl⟩
 split; · exact ⟨h, a, rfl, by show g.bud ≤ _; omega, rfl⟩
 exact ⟨h, a, rfl, by show g.bud ≤ _; omega, rfl⟩
theorem a50 {i g fr pg} (h : CpOk g.c) (e : i < 4) (a : cz fr) : CpOk (jv i g fr pg).1.2.c ∧ cz (jv i g fr pg).2 ∧ (jv i g fr pg).2.length = fr.length ∧ (jv i g fr pg).1.2.bud ≤ g.bud + 6 ∧ (jv i g fr pg).1.2.clock = g.clock := by
 unfold jv
 split
 exact ⟨z6 h (dJ _) h.pc, a, rfl, by rw [(sh _ _ _).1]; show g.bud + 3 ≤ _; omega, (sh _ _ _).2⟩
 split
 grind [z6, uR, sh]
 have b := DO (id := i) (clock := dS g.clock) (i := fq (pn g fr pg g.c.pc 4 0)) h (DG _).2.1 e
 obtain ⟨f, j, k, d, l⟩ := a5Z (g := jK (dG g) (jX i (dS g.clock) (fq (pn g fr pg g.c.pc 4 0)) g.c).2) (fr := fr) (pg := pg) b.2 b.1 a
 exact ⟨f, j, k, by have d : _ ≤ g.bud + 3 + 3 := d; omega, l⟩
theorem a51 {g} (h : CpOk g.c) : CpOk (fJ g).2.c ∧ (fJ g).2.clock = g.clock ∧ (fJ g).2.bud = g.bud ∧ (fJ g).2.ln = g.ln ∧ (fJ g).2.tm = g.tm := by
 unfold fJ
 split
 cases q : jJ g.ls with
 | none => exact ⟨h, rfl, rfl, rfl, rfl⟩
 | some n =>
  have := (yG q).1
  exact ⟨h.enter (by omega) (by decide), rfl, rfl, rfl, rfl⟩
 grind
theorem a52 g : (iM g).ln ≤ g.ln + 1 := by
 grind [Fs, k8]
theorem C0 {i g fr pg} (h : CpOk g.c) (f : i < 4) (b : cz fr) : CpOk (eS i g fr pg).1.2.c ∧ cz (eS i g fr pg).2 ∧ (eS i g fr pg).2.length = fr.length ∧ (eS i g fr pg).1.2.bud ≤ g.bud + 6 ∧ (eS i g fr pg).1.2.clock = g.clock + 1 ∧ (eS i g fr pg).1.2.ln ≤ g.ln + 1 ∧ (eS i g fr pg).1.2.tm.now = g.tm.now := by
 have d := a52 (j0 g)
 unfold eS
 split; · exact ⟨h, b, rfl, by show g.bud ≤ _; omega, rfl, by show g.ln ≤ _; omega, rfl⟩
 have a := a51 (g := iM (j0 g)) h
 split
 exact ⟨a.1, b, rfl, by rw [a.2.2.1]; show g.bud ≤ _; omega, by rw [a.2.1], by rw [a.2.2.2.1]; exact d, by rw [a.2.2.2.2]; rfl⟩
 obtain ⟨j, k, l, e, m⟩ := a50 (i := i) (fr := fr) (pg := pg) a.1 f b
 obtain ⟨p, n, o⟩ := Ft i (fJ (iM (j0 g))).2 fr pg
 exact ⟨j, k, l, by rw [a.2.2.1] at e; exact e, by rw [m, a.2.1], by rw [n, a.2.2.2.1]; exact d, by rw [o, a.2.2.2.2]; rfl⟩
theorem GMem.saved {i fr fr' pg po} (h : GMem i ⟨fr, pg, po⟩) (l : cz fr') (c : fr'.length = fr.length) (m : ∀ f, f < fr.length → (∀ t, aN pg t = true → (bH pg t).1 ≠ f) → fr'.getD f [] = fr.getD f []) : GMem i ⟨fr', pg, po⟩ := by
 refine ⟨l, h.po, h.pg, h.len.trans c.symm, by show PlOk fr'.length pg; rw [c]; exact h.pl, h.own, h.all, h.far, fun f d e => ?_⟩
 have a : f < fr.length := by have := h.len; dsimp only at this d; omega
 dsimp only
 rw [m f a fun t q g => ?_]
 exact h.nul f d e
 have j := q
 simp only [aN, Qan] at j
 obtain ⟨k, rfl, n⟩ := kz j.1
 rcases QaC k 8 with b | b
 have := h.own k b q
 dsimp only at this e
 rw [g, Qaf, e] at this
 have := (QcY this).2; cases this
 have := h.far k b q
 dsimp only at this e
 rw [g, Qaf, e] at this
 exact this rfl
theorem MV {fr a o w} {x f : Nat} (h : a ≠ (f : Int)) : (fM fr a o w x).getD f [] = fr.getD f [] := by
 unfold fM
 split
 rename_i q
 simp only [lk, Qan] at q
 obtain ⟨k, rfl, b⟩ := qx q.1
 rw [Qaf]
 exact Fu (fun e => h (by rw [e]))
 rfl
theorem a53 {fr pg on root user va w} {x f : Nat} (h : ∀ t, aN pg t = true → (bH pg t).1 ≠ f) : (lM fr pg on root user va w x).getD f [] = fr.getD f [] := by
 unfold lM
 split
 split
 rename_i q
 obtain ⟨c, d, e, a, g, b, i⟩ := Lw q
 rw [b]
 exact MV (h _ (Lx a))
 rfl
 rfl
theorem a54 {fr pg pa w} {x f : Nat} (h : ∀ t, aN pg t = true → (bH pg t).1 ≠ f) : (kN fr pg pa w x).getD f [] = fr.getD f [] := by
 grind [kN, MV, LC]
theorem a55 {g fr pg e} {f : Nat} (h : ∀ t, aN pg t = true → (bH pg t).1 ≠ f) : (ii g fr pg e).2.getD f [] = fr.getD f [] := by
 grind [ii, a53]
theorem a56 {i g fr pg} {f : Nat} (h : ∀ t, aN pg t = true → (bH pg t).1 ≠ f) : (eS i g fr pg).2.getD f [] = fr.getD f [] := by
 grind [eS, jv, a55]
theorem GMem.step {i j x g} (h : GMem i x) (a : CpOk g.c) (b : j < 4) : GMem i ⟨(eS j g x.fr x.pg).2, x.pg, x.po⟩ := by
 obtain ⟨_, d, e, _⟩ := C0 (i := j) (pg := x.pg) a b h.fr
 exact GMem.saved (fr := x.fr) h d e fun f _ q => a56 q
theorem GMem.vsave {i x pa w v} (h : GMem i x) : GMem i ⟨kN x.fr x.pg pa w v, x.pg, x.po⟩ :=
  GMem.saved (fr := x.fr) h (ID h.fr).1 (ID h.fr).2 fun f _ q => a54 q
theorem MW {B A R} : Ent (B ++ (A ++ R)) R := by
 rw [← QaJ]
 exact (Ent.ofPerm QaY).trans ent_app
abbrev mI (c : Cfg) (i : Nat) (ws : List Nat) : Mm := jf c i ws (List.replicate (cp c) cC) (e7 c (cp c))
abbrev z8 (b1 b2 b3 : Nat) : Mm := mI (pu 2 0 b1 b2 b3) 0 [1310798, 40]
def C1 (b1 b2 b3 : Nat) : (Int × Gu) × List aD := eS 0 g0 (z8 b1 b2 b3).fr (z8 b1 b2 b3).pg
def C2 (b1 b2 b3 : Nat) : (Int × Gu) × List aD := eS 0 (C1 b1 b2 b3).1.2 (C1 b1 b2 b3).2 (z8 b1 b2 b3).pg
def z9 (b1 b2 b3 : Nat) : (Int × Gu) × List aD := eS 0 (C2 b1 b2 b3).1.2 (C2 b1 b2 b3).2 (z8 b1 b2 b3).pg
theorem a57 b1 b2 b3 : (C1 b1 b2 b3).1.1 = 0 := by kernel_rfl
theorem a58 b1 b2 b3 : (C2 b1 b2 b3).1.1 = 4 := by kernel_rfl
theorem a59 b1 b2 b3 : (z9 b1 b2 b3).1.1 = 5 := by kernel_rfl
theorem a6a b1 b2 b3 : (z9 b1 b2 b3).1.2.c.rl = [0, 5, 0, 0, 0, 0, 0, 0, 0, 0, 0, 0, 0, 0, 0, 0] := by kernel_rfl
theorem a6b b1 b2 b3 : (z9 b1 b2 b3).1.2.c.pc = 8 := by kernel_rfl
theorem a6c b1 b2 b3 : (z9 b1 b2 b3).1.2.clock = 3 := by kernel_rfl
theorem MX : CpOk g0.c := ⟨⟨rfl, fun x a => by
 have := List.eq_of_mem_replicate a
 omega⟩, by decide, ⟨rfl, by decide⟩⟩
theorem GOk.new {z} (a : z.i < 4) : GOk z g0 0 := ⟨MX, a, Qam _, Qam _, by decide, by decide⟩
theorem GOk.step {z g N fr pg} (h : GOk z g N) (a : cz fr) : GOk z (eS z.i g fr pg).1.2 (N + 1) := by
 obtain ⟨b, _, _, d, e, f, j⟩ := C0 (i := z.i) (pg := pg) h.c h.i a
 exact h.more b (by omega) d (by omega) (by omega)
theorem a6d (U : ∀ A, bE (aQ W0 A) 1 0 jc) (V : ∀ A, bE (aQ W0 A) 0 0 kX) : sQ W0 15 [] R (.bool true) R := by
 refine am func15 ntmps15 ?_
 refine aF rfl (aB call5 (Ml 0 0 (by decide) (by decide))) ?_
 rintro _ X ⟨j, k, l, rfl, t⟩
 obtain rfl := t.symm
 rw [show lP 0 = 2 from rfl, show se 0 0 = 0 from rfl]
 refine dw (jP tQ aX a7T rfl rfl rfl rfl rfl (by decide) (by decide)) fun M => ?_
 refine gj (b := M) (o' := ag ([1310798, 40].flatMap iJ) 38) rfl ?_
 refine MU (fun v _ => v = .bool true) (fun v B Y => ⟨R, ⟨Y, rfl⟩, MW (A := [_, _, _, _])⟩) fun W H => ?_
 have I := Mk 2 (by decide) (by decide) 0 (by decide) (by decide) j k l
 have P : CfK W (pu 2 0 j k l) := Mn (H.ent Ent.drop)
 have Q : ∀ A, cG (aQ W A) (some ⟨M, 0, none⟩) 1 iJ [1310798, 40] := w9 H (sX (b := M) (fun _ => rfl) rfl)
 have u := xY H (U _)
 have w := xY H (V _)
 clear H
 have N := Fz I (i := 0) (show 0 < 2 by decide) [1310798, 40]
 refine aF rfl (aB call6 (a5U (pu 2 0 j k l) P I 0 (show 0 < 2 by decide) (some ⟨M, 0, none⟩) 2 [1310798, 40] Q (by decide) (by decide) (by decide))) ?_
 rintro _ X ⟨G, z, wg, wb, rfl, Z, y, x0, t⟩
 obtain rfl := t.symm
 have C : GOk z g0 0 := GOk.new (by omega)
 obtain ⟨x, O⟩ : ∃ x, z8 j k l = x := ⟨_, rfl⟩
 rw [show jf (pu 2 0 j k l) 0 [1310798, 40] (List.replicate (cp (pu 2 0 j k l)) cC) (e7 (pu 2 0 j k l) (cp (pu 2 0 j k l))) = x from O] at N ⊢
 obtain ⟨p, m⟩ : ∃ s, eS z.i g0 x.fr x.pg = s := ⟨_, rfl⟩
 obtain ⟨q, n⟩ : ∃ s, eS z.i p.1.2 p.2 x.pg = s := ⟨_, rfl⟩
 obtain ⟨o, D⟩ : ∃ s, eS z.i q.1.2 q.2 x.pg = s := ⟨_, rfl⟩
 have S : p = C1 j k l := by rw [← m, y, ← O]; rfl
 have T : q = C2 j k l := by rw [← n, y, S, ← O]; rfl
 have e3 : o = z9 j k l := by rw [← D, y, T, ← O]; rfl
 have k1 : p.1.1 = 0 := by grind [a57]
 have k2 : q.1.1 = 4 := by grind [a58]
 have k3 : o.1.1 = 5 := by grind [a59]
 have kr : o.1.2.c.rl = [0, 5, 0, 0, 0, 0, 0, 0, 0, 0, 0, 0, 0, 0, 0, 0] := by grind [a6a]
 have kp : o.1.2.c.pc = 8 := by grind [a6b]
 have kk : o.1.2.clock = 3 := by grind [a6c]
 clear S T e3
 have E : cz p.2 := by rw [← m]; exact (C0 (i := z.i) (pg := x.pg) C.c (by omega) N.fr).2.1
 have F : GOk z p.1.2 1 := by rw [← m]; exact C.step N.fr
 have J : cz q.2 := by rw [← n]; exact (C0 (i := z.i) (pg := x.pg) F.c (by omega) E).2.1
 have K : GOk z q.1.2 2 := by rw [← n]; exact F.step E
 have L : GOk z o.1.2 3 := by rw [← D]; exact K.step J
 refine aw ?_
 refine iT rfl rfl rfl (fun g => ?_) fun g => ?_
 refine au 2 ?_
 refine ah (xV GT rfl (BB W _ G z g0 0 x.fr x.pg u w C (by decide) N.fr)) ?_
 rw [m, k1]
 refine iT rfl rfl rfl (fun h => ?_) fun h => ?_
 refine au 2 ?_
 refine ah (xV GT rfl (BB W _ G z p.1.2 1 p.2 x.pg u w F (by decide) E)) ?_
 rw [n, k2]
 refine iT rfl rfl rfl (fun a => ?_) fun a => ?_
 refine au 2 ?_
 refine ah (xV GT rfl (BB W _ G z q.1.2 2 q.2 x.pg u w K (by decide) J)) ?_
 rw [D, k3]
 refine iT rfl rfl rfl (fun d => ?_) fun d => ?_
 refine au 2 ?_
 refine ah (cv call20 (Me W _ G z o.1.2 L.c.r.len)) ?_
 refine ae rfl (Iw Gd aX pZ rfl rfl rfl (by decide) (by rw [kr]; rfl)) ?_
 refine cM rfl rfl (ae rfl (iq rfl rfl) (ae rfl (lR rfl rfl) (ae rfl (aM rfl) ?_)))
 refine iT rfl rfl rfl (fun e => ?_) fun e => ?_
 refine au 2 ?_
 refine kv (cv call21 (a4E W _ G z o.1.2 L.c.r.len)) ?_
 rw [kp]
 refine cM rfl rfl (ae rfl (iq rfl rfl) (ae rfl (lR rfl rfl) (ae rfl (aM rfl) ?_)))
 refine iT rfl rfl rfl (fun f => ?_) fun f => ?_
 refine au 2 ?_
 refine ah (ap call16 (a4D W _ G z o.1.2)) ?_
 rw [kk]
 refine ac ?_
 exact ⟨_, rfl, ent_refl⟩
 first | exact absurd rfl f | exact absurd (by decide) f | simp at f
 first | exact absurd rfl e | exact absurd (by decide) e | simp at e
 first | exact absurd rfl d | exact absurd (by decide) d | simp at d
 first | exact absurd rfl a | exact absurd (by decide) a | simp at a
 first | exact absurd rfl h | exact absurd (by decide) h | simp at h
 first | exact absurd rfl g | exact absurd (by decide) g | simp at g
structure Ak where
  k : Int
  n : Int
  w : Nat
@[reducible] def rk (a : Ak) : List Value := [.int .i64 a.k, .int .i64 a.n, wV a.w]
abbrev raiseG (g : Gu) (n : Int) : Gu := { g with ls := if gx n then me g.ls g.ln n.toNat else g.ls, ln := if gx n then k8 g.ls g.ln n.toNat else g.ln }
abbrev FO (g : Gu) (n : Int) : Gu := { g with tm := tE g.tm n }
abbrev FP (g : Gu) (n : Int) (w : Nat) : Gu := { g with c := ⟨if gK n then j8 g.c.rl n.toNat w else g.c.rl, g.c.pc, g.c.cs⟩ }
abbrev a6e (x : Mm) (n : Int) (w : Nat) : Mm := ⟨kN x.fr x.pg (u32 n) 4 w, x.pg, x.po⟩
attribute [local irreducible] cr cI
def ji (x0 x : Mm) : Prop := x.po.length = x0.po.length ∧ ∀ f, (d6 x.po f).1 = (d6 x0.po f).1
theorem ji.rfl' x : ji x x := ⟨rfl, fun _ => rfl⟩
theorem ji.par {x0 x i} (h : ji x0 x) : nL i x.po = nL i x0.po := by
 unfold nL
 rw [h.1]
 exact Qah List.length (Qcu fun f _ => by rw [h.2 f])
theorem ji.set {x0 x} (h : ji x0 x) {f i : Nat} {b c fr pg} (a : f < x.po.length) (d : d6 x.po f = ((i : Int), b)) : ji x0 ⟨fr, pg, x.po.set f (i, c)⟩ := by
 refine ⟨by rw [Qap]; exact h.1, fun k => ?_⟩
 dsimp only
 rw [jY a]
 split
 rename_i e; rw [e, ← h.2 f, d]
 exact h.2 k
theorem ji.take {x0 x} (h : ji x0 x) {i p} : ji x0 (lx i p x) := by
 unfold lx
 split
 cases e : bS x.po i with
 | nil => exact h
 | cons f l =>
  have a := kQ.1 (show f ∈ bS x.po i by rw [e]; simp)
  exact h.set a.1 a.2
 exact h
theorem a6f i p x : (lx i p x).fr = x.fr := by
 unfold lx
 split
 cases bS x.po i <;> rfl
 rfl
theorem ji.gave {x0 x} (h : ji x0 x) {i p} (b : GMem i x) : ji x0 (ly i p x) := by
 unfold ly
 split
 rename_i q
 simp only [Qan] at q
 obtain ⟨n, rfl, e⟩ := s9 q.1
 obtain ⟨f, c, g, a⟩ := b.at_ q.2
 have d := b.own n e q.2
 rw [c, Qaf] at d
 rw [Qaf, mW, c, Qaf]
 exact h.set a d
 exact h
theorem ji.anew {x0 x} (h : ji x0 x) {i n ws} (a : GMem i x) (b : i < 16) : ji x0 (je i n ws x) := by
 obtain ⟨c, d⟩ := yS a b 8 (Qam _)
 obtain ⟨e, g⟩ := yT (who := i) (words := bA ws n) (x := ⟨(cr i 8 x).fr, (cr i 8 x).po, (cr i 8 x).pg⟩) n
 exact ⟨e.trans (c.trans h.1), fun f => (g f).trans ((d f).trans (h.2 f))⟩
theorem GOk.raise {z g N} (h : GOk z g N) n : GOk z (raiseG g n) (N + 1) := by
 refine h.more h.c (Qcw _) (by show g.bud ≤ _; omega) ?_ (by show g.tm.now ≤ _; omega)
 have := Fs g.ls g.ln n.toNat
 show (if _ then k8 g.ls g.ln n.toNat else g.ln) ≤ _
 split <;> omega
theorem GOk.arm {z g N} (h : GOk z g N) n : GOk z (FO g n) (N + 1) := by
 refine h.more h.c (Qcw _) (by show g.bud ≤ _; omega) (by show g.ln ≤ _; omega) ?_
 show (tE g.tm n).now ≤ _
 unfold tE
 split
 split
 exact QbR _
 omega
 omega
theorem GOk.setr {z g N} (h : GOk z g N) n {w} (a : w < 4294967296) : GOk z (FP g n w) (N + 1) := by
 refine h.more ⟨?_, h.c.pc, h.c.cs⟩ (Qcw _) (by show g.bud ≤ _; omega) (by show g.ln ≤ _; omega) (by show g.tm.now ≤ _; omega)
 show RlOk (if gK n then j8 g.c.rl n.toNat w else g.c.rl)
 split
 exact h.c.r.set _ _ a
 exact h.c.r
theorem GOk.answer {z g N e w} (h : GOk z g N) (a : e < 4294967296) (b : w < 4294967296) : GOk z (BE g e w) (N + 1) :=
  h.more ⟨a5Y h.c.r a b, by show cP g.c.pc < _; unfold cP; exact dJ _, h.c.cs⟩ (Qcw _) (by show g.bud ≤ _; omega) (by show g.ln ≤ _; omega) (by show g.tm.now ≤ _; omega)
theorem GOk.halt {z g N} (h : GOk z g N) k a b p : GOk z (ov (gY g) k a b p) (N + 1) :=
  h.more h.c (Qcw _) (by show g.bud ≤ _; omega) (by show g.ln ≤ _; omega) (by show g.tm.now ≤ _; omega)
theorem GOk.anew {z z' g N} (h : GOk z g N) (a : z'.i < 4) : GOk z' (pX g) (N + 1) :=
  ⟨MX, a, Nat.le_succ_of_le h.clk, QaG _, by show (0 : Int) ≤ _; omega, by show (0 : Int) ≤ _; omega⟩
theorem za g a b : (fI g a b).2.qa = g.qa ∧ (fI g a b).2.qb = g.qb ∧ (fI g a b).2.qc = g.qc := by unfold fI; split <;> exact ⟨rfl, rfl, rfl⟩
theorem a6g {i g fr pg} : (eS i g fr pg).1.2.qa = g.qa ∧ (eS i g fr pg).1.2.qb = g.qb ∧ (eS i g fr pg).1.2.qc = g.qc := by
 unfold eS
 split; · exact ⟨rfl, rfl, rfl⟩
 have a : (fJ (iM (j0 g))).2.qa = g.qa ∧ (fJ (iM (j0 g))).2.qb = g.qb ∧ (fJ (iM (j0 g))).2.qc = g.qc := by
  unfold fJ
  split
  cases jJ (iM (j0 g)).ls <;> exact ⟨rfl, rfl, rfl⟩
  exact ⟨rfl, rfl, rfl⟩
 split; · exact a
 generalize (fJ (iM (j0 g))).2 = q at a
 suffices h : (jv i q fr pg).1.2.qa = q.qa ∧ (jv i q fr pg).1.2.qb = q.qb ∧ (jv i q fr pg).1.2.qc = q.qc by rw [h.1, h.2.1, h.2.2]; exact a
 unfold jv
 split; · exact za _ _ _
 split; · exact za _ _ _
 unfold ii
 split
 unfold pq
 split
 exact za _ _ _
 exact ⟨rfl, rfl, rfl⟩
 split
 unfold pr
 split
 exact za _ _ _
 exact ⟨rfl, rfl, rfl⟩
 split; · exact za _ _ _
 split; · exact ⟨rfl, rfl, rfl⟩
 split; · exact ⟨rfl, rfl, rfl⟩
 split <;> exact ⟨rfl, rfl, rfl⟩
theorem a6h c i ws fr po : ji ⟨fr, iK, po⟩ (jf c i ws fr po) := by
 obtain ⟨a, b⟩ := yT (who := i) (words := bA ws (cJ c i).2.1.toNat) (x := ⟨fr, po, iK⟩) (cJ c i).2.1.toNat
 exact ⟨a, b⟩
end
section
open Go.ChangeShapes Go.WideShapes Go.ChangeAt Go.RowKit
set_option linter.unusedSimpArgs false
set_option linter.unusedVariables false
variable {W : World} {v : Value}
theorem a6i {l : List Value} (h : l.length = 3) : ∃ a b c, l = [a, b, c] := by
 match l, h with
 | [a, b, c], _ => exact ⟨a, b, c, rfl⟩
theorem a6j {fuel l} (h : kM Tryz.prog W fuel 40 l) : ∃ x, l = rk x ∧ x.w < 4294967296 := by
 obtain ⟨m, r, d⟩ := OF Nw h
 obtain ⟨a, b, c, rfl⟩ := a6i (m.trans (by kernel_rfl))
 have e := d _ (Qbi ..)
 have f := d _ (QbI _ (Qbi ..))
 have g := d _ (QbI _ (QbI _ (Qbi ..)))
 rw [show Tryz.prog.cellsOf 3 = 1 by kernel_rfl] at e f
 rw [show Tryz.prog.cellsOf 38 = 1 by kernel_rfl] at g
 obtain ⟨n, i, _⟩ := zW jj e
 obtain ⟨o, j, _⟩ := zW jj f
 obtain ⟨p, k, q⟩ := IF g
 simp at i j k
 exact ⟨⟨n, o, p⟩, by rw [i, j, k]; rfl, q⟩
theorem a6k (h : Ty Tryz.prog W 23 v) : ∃ a c, ∃ b, v = .slice a b.length c ∧ b.length < 9223372036854775808 ∧ vx W a 3 rk b ∧ ∀ t ∈ b, t.w < 4294967296 := by
 obtain ⟨a, c, e, rfl, k, g, i, j⟩ := Hh (f := rk) (Q := fun t : Ak => t.w < 4294967296) 3 Nr (by kernel_rfl) (by decide) (fun d r h => a6j h) h
 exact ⟨a, c, e, rfl, by simp only [maxLen] at g; omega, i, j⟩
theorem a6l {fuel l} (h : kM Tryz.prog W fuel 38 l) : ∃ x, l = iJ x ∧ x < 4294967296 := by
 obtain ⟨x, rfl, a⟩ := IF h
 exact ⟨x, rfl, a⟩
theorem a6m (h : Ty Tryz.prog W 22 v) : ∃ a c b, v = .slice a (List.length (α := Nat) b) c ∧ b.length < 9223372036854775808 ∧ b.length ≤ c ∧ vx W a 1 iJ b ∧ ∀ x ∈ b, x < 4294967296 := by
 obtain ⟨a, c, b, rfl, e, g, i, j⟩ := Hh (f := iJ) (Q := fun x => x < 4294967296) 1 tQ (by kernel_rfl) (by decide) (fun d r h => a6l h) h
 exact ⟨a, c, b, rfl, by simp only [maxLen] at g; omega, e, i, j⟩
end
section
open Go.RowKit
theorem a6n gb z g (b : g.c.rl.length = 16) : sQ W0 51 [pV gb] (pt gb (dA z g) :: pt z.x.r (dF g.c.rl g.c.pc) :: R) (.tuple #[wV (bP g.c.rl 1), .agg #[wV (bP g.c.rl 2), wV (bP g.c.rl 3), wV (bP g.c.rl 4), wV (bP g.c.rl 5)]]) (pt gb (dA z g) :: pt z.x.r (dF g.c.rl g.c.pc) :: R) := by
 obtain ⟨⟨Q, p, q⟩, s, t, u, v, w, y, A, B, C, D, E⟩ := g
 dsimp only at b ⊢
 obtain ⟨F, G, H, I, J, K, L, M, N, O, d, e, f, l, m, o, rfl⟩ := a0G b
 refine lG func51 ntmps51 rfl rfl ?_
 refine aO (aY (ae rfl (bC rfl) ?_))
 refine eH (di Cg) fun S => ?_
 refine aL (aH (aO (aY (ae rfl (aM rfl) (kv (cv call20 (Me W0 _ gb z ⟨⟨[F, G, H, I, J, K, L, M, N, O, d, e, f, l, m, o], p, q⟩, s, t, u, v, w, y, A, B, C, D, E⟩ b)) ?_)))))
 refine eH (di NG) fun P => ?_
 refine fh (gi rq rfl rfl rfl rfl rfl) ?_
 rintro _ _ rfl
 refine aL (aH (aO ?_))
 refine bz [P] 7 fun a => ?_
 refine az 0 a (fB Gd aX rfl rfl (i := 1) rfl (by decide) (by first | exact Qac _ | rfl)) ?_
 refine dr 1 rfl rfl rfl a (co pZ rfl (dq (k := 0) rfl rfl)) ?_
 refine az 2 a (YW (i := 2) (h := 6) (o' := 2) Gd aX rfl rfl rfl rfl rfl (by decide) (by decide) (by decide) rfl) ?_
 refine az 3 a (YX GR rfl (by decide)) ?_
 refine az 4 a (dj (YY (n := 4) (j := 2) (jR (k := 0) rfl) rfl)) ?_
 refine aj 5 1 a ?_
 refine cm 6 aA fun a => ?_
 refine aJ ?_
 exact aV (.cons (aR rfl) (.cons (b0 N6 G0 rfl rfl) .nil)) ao
section
variable {P : Program} {W0 : World} {A R : List HP} {sz : Nat}
theorem a6o {E m ys f args} (h : bF P W0 f args A (fun v B => ∃ a c, v = .slice a m c ∧ B = osl E sz (.slice a m c) ys :: R)) :
    bF P W0 f args A (fun v B => ∃ a c, v = .slice a m c ∧ xp a ys ∧ B = osl E sz (.slice a m c) ys :: R) := fun w k =>
  (h w k).mono fun e q ⟨v, B, l, ⟨a, c, n, i⟩, j⟩ => by
 refine ⟨v, B, l, ⟨a, c, n, ?_, i⟩, j⟩
 subst i
 rcases (j.tk (r := osl E sz) (b := .slice a m c)).osl with ⟨d, o, _⟩ | ⟨g, s, p, t, d, _, _, _, _, _⟩
 cases d; exact .inl ⟨rfl, o⟩
 cases d; exact .inr ⟨g, rfl⟩
theorem a6p {E n c : Nat} {a ys} (f : xp a ys) (b : ys.length = n * sz) (h : 0 < sz) (i : bE (aQ W0 A) (A6 a) 0 ys) : n = 0 ∨ ∃ d e, a = some ⟨d, e, none⟩ ∧ bE (aQ W0 A) d e ys := by
 rcases f with ⟨_, j⟩ | ⟨g, rfl⟩
 left
 rw [j] at b
 rcases Nat.eq_zero_or_pos n with q | q
 exact q
 have := Nat.mul_pos q h
 simp at b; omega
 exact .inr ⟨g, 0, rfl, i⟩
end
theorem a6q (l : List It) : fi (l.flatMap qS) = true := by
 induction l with
 | nil => rfl
 | cons x l a => rw [Qbc, fi, List.all_append, Qan]; exact ⟨rfl, a⟩
abbrev KE := dp × jH
@[reducible] def si (x : KE) : List Value := [.int .i64 x.1.1, .int .i64 x.1.2, .int .i64 x.2.1, .int .i64 x.2.2.1, .int .i64 x.2.2.2]
def nO (L : List Ln) (T : List It) : List KE := L.map (fun x => (x.k, x.e)) ++ T.map (fun y => (y.key, y.ent))
theorem FQ {L T} : (nO L T).length = L.length + T.length := by simp [nO]
theorem a6r {L T} : (nO L T).flatMap si = L.flatMap yr ++ T.flatMap qS := by
 rw [nO, Qbt, List.flatMap_map, List.flatMap_map]; rfl
theorem a6s {L T} (h : TI L T) : ∀ x ∈ nO L T, ∃ y ∈ L, y.e = x.2 := fun x b => by
 rcases QaS.1 b with q | q
 obtain ⟨y, a, rfl⟩ := QaX.1 q
 exact ⟨y, a, rfl⟩
 obtain ⟨y, a, rfl⟩ := QaX.1 q
 obtain ⟨z, c, _, e⟩ := h.sub y a
 exact ⟨z, c, e⟩
theorem a6t W0 R bm pv bt bs ps pm d its room now T L fr pg (y : Rep its now T) (z : T.length ≤ room) (A : room ≤ 4) (h : MOk fr pg d L T) :
    bF Tryz.prog W0 9 [.pointer (some ⟨bm, 0, none⟩)] (pt bm (cB pv bt bs) :: aU bt (its, cT room now) :: bJ bs L :: pt pv (cg ps pm d) :: R)
      (fun v B => ∃ a c g m o, v = .slice a (nO o m).length c ∧ B = osl 53 5 (.slice a (nO o m).length c) ((nO o m).flatMap si) :: pt bm (cB pv bt bs) :: aU bt (g, cT room now) :: bJ bs o :: pt pv (cg ps pm 0) :: R ∧ Rep g now m ∧ m.length ≤ room ∧ MOk fr pg 0 o m ∧ (d = 0 → o = L)) := by
 refine CW func9 ntmps9 rfl rfl ?_
 refine aO (aY (ae rfl (bC rfl) (aL (aH (aO (aO (aY (ae rfl (aM rfl) (aF rfl (ir zF rfl (wx bm pv bt bs)) ?_)))))))))
 rintro _ q ⟨rfl, f⟩
 obtain rfl := f.symm
 refine aL (aH ?_)
 refine aC rfl ?_ ?_
 intro t
 exact absurd t (by decide)
 intro t
 refine jk (aH (aO (aY (ae rfl (aM rfl) (aF rfl (lW GK rfl (EY bm pv bt bs ps pm d its (.int .i64 room) (.int .i64 now) now room T L fr pg y z A h)) ?_)))))
 rintro _ q ⟨rfl, i, j, u, f, p, r, w, _, l⟩
 subst f
 have C := w.ti.len
 refine aL (aH (aO ?_))
 refine fj [(bm, 0, _)] 12 mixed rfl (bL aW) (fun b => ?_)
 refine oL 0 rfl rfl (by kernel_rfl) (by kernel_rfl) (by kernel_rfl) rfl b (aM rfl) ?_
 refine oL 1 rfl rfl (by kernel_rfl) (by kernel_rfl) (by kernel_rfl) rfl b (kL rfl) ?_
 refine oL 2 rfl rfl (by kernel_rfl) (by kernel_rfl) (by kernel_rfl) rfl b (d5 rfl No rfl sizeOf151 rfl (by first | exact Qac _ | rfl)) ?_
 refine oL 3 rfl rfl (by kernel_rfl) (by kernel_rfl) (by kernel_rfl) rfl b (co isAgg151 rfl (dq (k := 0) rfl rfl)) ?_
 refine oL 5 rfl rfl (by kernel_rfl) (by kernel_rfl) (by kernel_rfl) rfl b (aM rfl) ?_
 refine oL 6 rfl rfl (by kernel_rfl) (by kernel_rfl) (by kernel_rfl) rfl b (kL rfl) ?_
 refine oL 7 rfl rfl (by kernel_rfl) (by kernel_rfl) (by kernel_rfl) rfl b (d5 rfl No rfl sizeOf150 rfl (by first | exact Qac _ | rfl)) ?_
 refine oL 8 rfl rfl (by kernel_rfl) (by kernel_rfl) (by kernel_rfl) rfl b (co isAgg150 rfl (dq (k := 0) rfl rfl)) ?_
 refine kt 4 (by kernel_rfl) rfl rfl (ir call66 rfl (a1H bs u (by omega))) rfl ?_; clear b
 rintro _ q ⟨H, I, rfl, f⟩
 subst f
 refine ⟨(bL aW), fun b => ?_⟩
 refine kt 9 (by kernel_rfl) rfl rfl (ir call67 rfl (a6o (KH bt i (.int .i64 room) (.int .i64 now) now j p (by omega)))) rfl ?_; clear b
 rintro _ q ⟨D, x, rfl, s, f⟩
 subst f
 refine ⟨(bL aW), fun b => ?_⟩
 refine kt 10 (by kernel_rfl) rfl rfl (AA (sz := 5) (by_ := 40) (info := Tryz.t53) qe (by kernel_rfl) rfl rfl rfl rfl (by decide) rfl rfl (news := j.flatMap qS) (a6p (c := x) (E := 53) s (cF ET j) (by decide) (xq (E := 53) (sz := 5) (a := D) (n := j.length) (c := x))) (cF ET j) (a6q j) (by simp only [maxLen]; omega) (by omega)) rfl ?_; clear b
 rintro _ _ ⟨F, G, rfl, rfl⟩
 refine ⟨(bL aW), fun b => ?_⟩
 refine oL 11 rfl rfl (by kernel_rfl) (by kernel_rfl) (by kernel_rfl) rfl b (bC rfl) ?_
 refine CY (by kernel_rfl) ?_; clear b
 refine aH (dE (bU (.inl rfl) (.cons (aR rfl) .nil) ?_))
 refine ⟨_, ⟨F, G, i, j, u, ?_, rfl, p, r, w, fun e => l (by rw [e]; rfl)⟩, ?_⟩
 rw [FQ]; rfl
 rw [FQ, a6r]; exact inferInstance
def l5 (x0 x : Mm) : Prop := ∀ t : Nat, 8 ≤ t → aN x.pg t = aN x0.pg t ∧ bH x.pg t = bH x0.pg t
theorem l5.rfl' x : l5 x x := fun _ _ => ⟨rfl, rfl⟩
theorem l5.trans {x y z} (h : l5 x y) (k : l5 y z) : l5 x z := fun t a => ⟨(k t a).1.trans (h t a).1, (k t a).2.trans (h t a).2⟩
theorem MY {pg n p} (a : n < 8) {t : Nat} (b : 8 ≤ t) : aN (dL pg n p) t = aN pg t ∧ bH (dL pg n p) t = bH pg t := by
 unfold dL
 split
 exact gr (by omega)
 exact ⟨rfl, rfl⟩
theorem a6u i p x : l5 x (lx i p x) := fun t a => by
 unfold lx
 split
 rename_i q
 simp only [Qan] at q
 obtain ⟨n, rfl, b⟩ := s9 q.1
 cases bS x.po i with
 | nil => exact ⟨rfl, rfl⟩
 | cons f l => exact MY (by omega) a
 exact ⟨rfl, rfl⟩
theorem MZ {i n x} (a : x.pg.length = 12) (b : n < 8) : l5 x (mW i n x) := fun t c =>
  ⟨by show aN (fe x.pg n) t = _; rw [yP a, Qai (by omega), Bool.and_true], BC (by omega)⟩
theorem a6v {i p x} (a : x.pg.length = 12) : l5 x (ly i p x) := by
 unfold ly
 split
 rename_i q
 simp only [Qan] at q
 obtain ⟨n, rfl, b⟩ := s9 q.1
 exact MZ a b
 exact l5.rfl' x
theorem N0 {i x} (h : GMem i x) (a : i < 16) : ∀ n, n ≤ 8 → l5 x (cr i n x)
 | 0, _ => l5.rfl' x
 | n + 1, c => by
  have b := N0 h a n (by omega)
  rw [cr, ka]
  split
  exact b.trans (MZ (h.strip a n (by omega)).pg.len (by omega))
  exact b
theorem N1 {who words x} : ∀ n, n ≤ 8 → l5 (tI x) (tI (cI who words n x))
 | 0, _ => l5.rfl' _
 | n + 1, c => by
  have a := N1 (who := who) (words := words) (x := x) n (by omega)
  refine a.trans fun t b => ?_
  rw [cI, jD]
  cases bS (cI who words n x).po who with
  | nil => exact ⟨rfl, rfl⟩
  | cons f l => exact MY (pg := (cI who words n x).pg) (by omega) b
theorem a6w {c i ws fr po} (j : rt c = true) (k : i < c.gl.length) (l : c.nl.length = 1) {t : Nat} (m : 8 ≤ t) (h : aN (jf c i ws fr po).pg t = true) :
    t = 8 ∧ bH (jf c i ws fr po).pg t = (iY c 0, ic (ie c 0) i) ∧ ic (ie c 0) i ≠ 0 := by
 have o := jt j
 have p := o.gs i k
 have a : aN (laid c i ws fr po).pg t = false := by
  show aN (cI i (bA ws (cJ c i).2.1.toNat) (cJ c i).2.1.toNat ⟨fr, po, iK⟩).pg t = false
  rw [yU _ (by omega) t m]; exact wH _
 have b : (laid c i ws fr po).pg.length = 12 := by
  have : ∀ n, (cI i (bA ws (cJ c i).2.1.toNat) n ⟨fr, po, iK⟩).pg.length = 12 := fun n => by
   induction n with
   | zero => rfl
   | succ n d =>
    rw [cI, jD]
    split
    show (dL _ _ _).length = 12
    unfold dL
    split
    rw [Qap]; exact d
    exact d
    exact d
  exact this _
 have e : (jf c i ws fr po).pg = if ic (ie c 0) i = 0 then (laid c i ws fr po).pg else dL (laid c i ws fr po).pg ((8 + 0 : Nat) : Int) (iY c 0, ic (ie c 0) i) := by
  show eZ c i c.nl.length (laid c i ws fr po).pg = _
  rw [l]; rfl
 rw [e] at h ⊢
 split at h
 rw [a] at h; cases h
 rename_i f
 rw [Qaa f]
 unfold dL at h ⊢
 split at h
 rename_i r
 rw [Qad r]
 by_cases q : t = 8
 subst q
 have g : ((iY c 0, ic (ie c 0) i) : Pl) ≠ (0, 0) := fun e => f (QcY e).2
 exact ⟨rfl, (yE b (by decide) g).2, f⟩
 rw [(gr (by omega)).1, a] at h; cases h
 rw [a] at h; cases h
attribute [local irreducible] cr cI
theorem a6x {i n ws x} (h : GMem i x) (a : i < 16) (b : n ≤ 8) : l5 x (je i n ws x) :=
  (N0 h a 8 (Qam _)).trans (N1 (x := ⟨(cr i 8 x).fr, (cr i 8 x).po, (cr i 8 x).pg⟩) n b)
theorem a6y {c} (a : rt c = true) (h : 0 < c.nl.length) : ∃ b : Nat, iY c 0 = b ∧ lr c b = (2, 0) := by
 have d := jt a
 have i := qN d.gs c.gl.length (Qam _)
 have g := rX c c.gl.length
 refine ⟨(dM c c.gl.length).toNat, by rw [iY, Qad ⟨a, QbR _, by omega⟩]; omega, ?_⟩
 have e : (((dM c c.gl.length).toNat : Nat) : Int) = dM c c.gl.length := by omega
 have f : jG c (dM c c.gl.length) = none := by
  cases q : jG c (dM c c.gl.length) with
  | none => rfl
  | some j =>
   have k := (y8 d).1 q
   have l := AT d (show j + 1 ≤ c.gl.length by omega) (Qam _)
   omega
 rw [e, lr, Qad ⟨a, by omega, by omega⟩, f, Eo, Int.sub_self]
theorem N2 {c i} {ws : List Nat} {x0 x} (m : rt c = true) (d : ji ⟨List.replicate (cp c) cC, iK, e7 c (cp c)⟩ x0) (e : ji x0 x) (h : GMem i x) {t : Nat} (n : t < 8) (g : aN x.pg t = true) :
    ∃ f : Nat, (bH x.pg t).1 = f ∧ lr c f = (1, (i : Int)) := by
 obtain ⟨f, k, o, p⟩ := h.at_ g
 refine ⟨f, k, ?_⟩
 have l := h.own t n g
 rw [k, Qaf] at l
 have a : (d6 (e7 c (cp c)) f).1 = (i : Int) := by rw [← d.2 f, ← e.2 f, l]
 have b : f < cp c := by
  have := e.1.trans d.1
  rw [show (e7 c (cp c)).length = cp c from pd c _] at this
  omega
 rw [uD b, Qad b] at a
 cases q : jG c f with
 | none => rw [q] at a; exact absurd a (by show (-1 : Int) ≠ _; omega)
 | some j =>
  rw [q] at a
  have : j = i := by have r : (j : Int) = i := a; omega
  subst this
  exact B6 m b q
theorem a6z {c} {i : Nat} {x0 x d L T} (B : rt c = true) (U : c.nl.length = 1) (F : ji ⟨List.replicate (cp c) cC, iK, e7 c (cp c)⟩ x0) (G : ji x0 x) (H : l5 x0 x)
    (I : ∀ t : Nat, 8 ≤ t → aN x0.pg t = true → t = 8 ∧ bH x0.pg t = (iY c 0, ic (ie c 0) i) ∧ ic (ie c 0) i ≠ 0) (h : GMem i x) (C : MOk x.fr x.pg d L T) {y} (J : y ∈ nO L T) :
    ∃ f : Nat, y.2.2.1 = f ∧ (lr c f = (1, (i : Int)) ∧ y.2.1 < 8 ∨ lr c f = (2, 0) ∧ y.2.1 = 8 ∧ e8 y.2.2.2 4 = false ∧ (ic (ie c 0) i = 1 → e8 y.2.2.2 2 = false)) ∧ 0 ≤ y.2.2.2 ∧ y.2.2.2 < 16 := by
 obtain ⟨z, K, s⟩ := a6s C.ti y J
 have u := C.ln z K
 have a := u.at_
 have g := u.r
 have j := u.al
 rw [s] at a g j
 have l := a.1
 simp only [aN, Qan] at l
 obtain ⟨t, m, D⟩ := kz l.1
 rw [m] at a j
 rcases QaC t 8 with o | o
 obtain ⟨f, M, v⟩ := N2 (ws := []) B F G h o a.1
 exact ⟨f, by rw [← a.2, M], .inl ⟨v, by omega⟩, g⟩
 obtain ⟨N, O⟩ := H t o
 obtain ⟨rfl, P, V⟩ := I t o (by rw [← N]; exact a.1)
 obtain ⟨b, Q, v⟩ := a6y B (by omega)
 have E : bH x.pg ((8 : Nat) : Int) = (iY c 0, ic (ie c 0) i) := O.trans P
 have w : ew x.pg 8 = (iY c 0, ic (ie c 0) i) := by
  have := E
  rw [bH, Qad a.1, Qaf] at this
  exact this
 have n : ∀ k p, jn k = true → iu k = p → iV (8 : Int) (ew x.pg 8) k = false → e8 y.2.2.2 p = false := fun k p R S A => by
  cases q : e8 y.2.2.2 p with
  | false => rfl
  | true =>
   have := j k R (by rw [S]; exact q)
   rw [eX, Qad a.1, Qaf, show ((8 : Nat) : Int) = (8 : Int) from rfl, A] at this
   exact absurd this (by decide)
 refine ⟨b, by rw [← a.2, E]; exact Q, .inr ⟨v, m, n 0 4 (by decide) (by decide) (by simp [iV]), fun e => n 2 2 (by decide) (by decide) ?_⟩, g⟩
 rw [w, e]; simp [iV]
end
section
open Go.RowKit
set_option linter.unusedSimpArgs false
set_option linter.unusedVariables false
set_option maxRecDepth 20000
set_option synthInstance.maxSize 2000
set_option synthInstance.maxHeartbeats 1000000
attribute [local irreducible] cr cI
abbrev dW (gb wb wg : Nat) (z : Gz) (zr : Rz) (g : Gu) (x : Mm) (L : List Nat) (T : List (Int × Int)) (d : Nat) (wl : List Nat) (R : List HP) : List HP := gA gb z g x (cR z.pb (z.ps, x.po) :: bD z.ps x.fr :: pt wg (ag (wl.map wV) 38) :: rA wb zr g L T d x R)
structure Dg (W0 : World) where
  c : Cfg
  i : Nat
  n : Nat
  wg : Nat
  wl : List Nat
  a : Option Addr
  cap : Nat
  ws : List Nat
  x0 : Mm
  bx : Nat
  br : Nat
  ok : CfK W0 c
  rt : rt c = true
  hi : i < c.gl.length
  hn : (cJ c i).2.1 = (n : Int)
  par : n ≤ nL i x0.po
  po : 0 < x0.po.length
  hwl : wl = bA ws 8
  hs : ∀ A, cG (aQ W0 A) a 1 iJ ws
  hb : ∀ y ∈ ws, y < 4294967296
  hl : ws.length < 9223372036854775808
  hc : ws.length ≤ cap
theorem Dg.n8 {W0} (D : Dg W0) : D.n ≤ 8 := by
 have := (jt D.rt).gs D.i D.hi
 rw [D.hn] at this; omega
theorem Dg.i4 {W0} (D : Dg W0) : D.i < 4 := by have := (jt D.rt).g4; have := D.hi; omega
theorem Dg.anew {W0} (D : Dg W0) i x : je i D.n D.wl x = je i D.n D.ws x := by
 have a := D.n8
 have e : bA D.wl D.n = bA D.ws D.n := by
  rw [D.hwl, bA, bA, bA, List.take_take, Qbm (by omega)]
 rw [je, je, e]
theorem Dg.wlb {W0} (D : Dg W0) : (∀ y ∈ D.wl, y < 4294967296) ∧ D.wl.length ≤ 128 := by
 rw [D.hwl]
 exact ⟨fun y a => D.hb y (QbJ a), by rw [wa]; omega⟩
structure DInv {W0 : World} (D : Dg W0) (N : Nat) (z : Gz) (zr : Rz) (g : Gu) (x : Mm) (L : List Nat) (T : List (Int × Int)) : Prop where
  c : z.c = D.c
  i : z.i = D.i
  w : z.wv = .slice (some ⟨D.wg, 0, none⟩) D.wl.length D.wl.length
  bx : z.bx = D.bx
  rc : zr.k = D.c
  ri : zr.i = D.i
  rw : zr.wv = .slice D.a D.ws.length D.cap
  rb : zr.bx = D.br
  ok : GOk z g N
  m : GMem D.i x
  s : ji D.x0 x
  l : LRel g.ls g.ln L
  t : TRel g.tm T
  e : g.es.length ≤ 4096
  f : l5 D.x0 x
theorem wN {es e} (h : es.length ≤ 4096) : (pW es e).length ≤ 4096 := by
 unfold pW
 split
 rw [Qae, QbV]; omega
 exact h
theorem FR {g a b} (h : g.es.length ≤ 4096) : (fI g a b).2.es.length ≤ 4096 := by
 unfold fI
 split <;> exact wN h
theorem a6A {g fr pg e} (h : g.es.length ≤ 4096) : (ii g fr pg e).1.2.es.length ≤ 4096 := by
 unfold ii pq pr
 repeat' (first | exact FR h | exact wN h | exact h | split)
theorem a6B {i g fr pg} (h : g.es.length ≤ 4096) : (eS i g fr pg).1.2.es.length ≤ 4096 := by
 have a : (fJ (iM (j0 g))).2.es.length ≤ 4096 := by
  unfold fJ
  split
  cases jJ (iM (j0 g)).ls with
  | none => exact h
  | some n => exact wN h
  exact h
 unfold eS
 split
 exact h
 split
 exact a
 unfold jv
 split
 exact FR a
 split
 exact FR a
 exact a6A a
theorem LRel.raiseG {ls now L} (h : LRel ls now L) (a : now < 1000000) n : LRel (if gx n then me ls now n.toNat else ls) (if gx n then k8 ls now n.toNat else now) (nM L n) := by
 cases q : gx n with
 | false =>
  rw [nM, q]
  simpa using h
 | true =>
  have := Qar q
  obtain ⟨k, rfl⟩ : ∃ k : Nat, n = (k : Int) := ⟨n.toNat, by omega⟩
  rw [Qad rfl, Qad rfl, Qaf]
  exact h.raise a (by omega)
def a6C {W0 : World} (D : Dg W0) (gb wb N : Nat) (R : List HP) (v : Value) (B : List HP) : Prop :=
  v = .bool true ∧ ∃ z zr g x L T d, B = dW gb wb D.wg z zr g x L T d D.wl R ∧ DInv D N z zr g x L T
theorem a6D W0 R (hK : ∀ A, bE (aQ W0 A) 1 0 jc) (hH : ∀ A, bE (aQ W0 A) 0 0 kX) (D : Dg W0) gb wb N (hN : N ≤ 200) z zr g x L T d (h : DInv D N z zr g x L T) a (E : a.w < 4294967296) : sP W0 7 [pV gb, pV wb, .agg (rk a).toArray] (dW gb wb D.wg z zr g x L T d D.wl R) (a6C D gb wb (N + 1) R) := by
 have G := D.i4
 have H : z.i < 4 := by rw [h.i]; exact G
 have P : GMem z.i x := by rw [h.i]; exact h.m
 have I : GMem zr.i x := by rw [h.ri]; exact h.m
 have J : zr.i < 4 := by rw [h.ri]; exact G
 have x6 := h.ok.clk
 have x3 := h.ok.ln
 have x4 := h.ok.tn
 have p : g.clock < 1000000000 := by omega
 have q : g.c.rl.length = 16 := h.ok.c.r.len
 have F : 0 < x.po.length := by rw [h.s.1]; exact D.po
 have x5 := h.l.few
 refine am func7 ntmps7 ?_
 refine eH (kg rfl) fun K => ?_
 refine ae rfl (bC rfl) (aL (aH (aO (aO (aY ?_)))))
 refine ae rfl (d5 rfl Nw rfl aS rfl (by first | exact Qac _ | rfl)) ?_
 refine ae rfl (co db rfl (aI rfl)) ?_
 refine aL (aH (mm (aO (aY (ae rfl (iq rfl rfl) (ae rfl (bC rfl) (aL (aH ?_))))))))
 refine aC rfl (fun c2 => ?_) fun c2 => ?_
 refine aO ?_
 refine fj [(K, 0, rk a), (wb, 38, [pV zr.vic])] 14 mixed rfl (bL (bj (io fun _ => rfl) aW)) (fun j => ?_)
 refine aj 0 1 j ?_
 refine aj 2 2 j ?_
 refine aj 5 3 j ?_
 refine az 8 j (aE (ko (k := 1) rfl)) ?_
 refine aj 9 2 j ?_
 refine fD 1 rfl rfl (ap call24 (a4B W0 _ gb z g)) (bL (bj (io fun _ => rfl) aW)) fun j => ?_
 refine fD 4 rfl rfl (ap call42 (LR z.x.v g.ls g.ln a.n (by omega))) (bL (bj (io fun _ => rfl) aW)) fun j => ?_
 refine fD 11 rfl rfl (ap call43 (Mv zr.vic L (by omega) a.n)) (bL (bj (io fun _ => rfl) aW)) fun j => ?_
 refine aj 12 2 j ?_
 refine hQ ?_
 refine aH (dE (mn (iP (ac ?_))))
 refine ⟨_, ⟨Qah Value.bool (Qbz _), z, zr, raiseG g a.n, x, _, T, d, rfl, ⟨h.c, h.i, h.w, h.bx, h.rc, h.ri, h.rw, h.rb, h.ok.raise a.n, h.m, h.s, h.l.raiseG (by omega) a.n, h.t, h.e, h.f⟩⟩, ?_⟩
 unfold dW gA rA
 rw [show dZ wb (zr, raiseG g a.n) = dZ wb (zr, g) from rfl]
 exact IO
 refine aO (aY (ae rfl (iq rfl rfl) (ae rfl (bC rfl) (aL (aH ?_)))))
 refine aC rfl (fun c4 => ?_) fun c4 => ?_
 refine aO ?_
 refine bz [K] 10 fun j => ?_
 refine aj 0 3 j ?_
 refine aj 4 3 j ?_
 refine bY 3 (cN call44 (a4F W0 _ gb z g H a.n x P F)) fun j => ?_
 refine kt 7 (by kernel_rfl) rfl rfl (lW call45 rfl (a5J W0 _ wb zr g d J a.n x I F)) rfl ?_; clear j
 rintro _ M ⟨rfl, o⟩
 obtain rfl := o.symm
 rw [show wG zr.i a.n x = wG z.i a.n x by rw [h.ri, h.i], show lx zr.i a.n x = lx z.i a.n x by rw [h.ri, h.i]]
 refine ⟨aT, fun j => ?_⟩
 refine aj 8 2 j ?_
 refine hQ ?_
 refine aH (dE (mn (iP (ac ?_))))
 refine ⟨_, ⟨Qah Value.bool (Qbz _), z, zr, g, lx z.i a.n x, L, T, d, rfl, ⟨h.c, h.i, h.w, h.bx, h.rc, h.ri, h.rw, h.rb, h.ok.le (Qcw N), (by rw [h.i]; exact h.m.take (by omega)), h.s.take, h.l, h.t, h.e, h.f.trans (a6u _ _ _)⟩⟩, ?_⟩
 unfold dW gA rA
 rw [a6f]
 exact IO
 refine aO (aY (ae rfl (iq rfl rfl) (ae rfl (bC rfl) (aL (aH ?_)))))
 refine aC rfl (fun c6 => ?_) fun c6 => ?_
 refine aO ?_
 refine bz [K] 10 fun j => ?_
 refine aj 0 3 j ?_
 refine aj 4 3 j ?_
 refine kt 3 (by kernel_rfl) rfl rfl (lW call46 rfl (a4G W0 _ gb z g H a.n x P)) rfl ?_; clear j
 rintro _ M ⟨rfl, o⟩
 obtain rfl := o.symm
 refine ⟨(bL aW), fun j => ?_⟩
 refine bQ 7 (vE call47 rfl (a5K W0 _ wb zr g d J a.n x I)) ?_; clear j
 rintro _ M ⟨rfl, o⟩
 obtain rfl := o.symm
 rw [show ly zr.i a.n x = ly z.i a.n x by rw [h.ri, h.i]]
 refine ⟨aT, fun j => ?_⟩
 refine aj 8 2 j ?_
 refine aJ ?_
 refine ac ?_
 exact ⟨_, ⟨Qah Value.bool (Qbz _), z, zr, g, ly z.i a.n x, L, T, d, rfl, ⟨h.c, h.i, h.w, h.bx, h.rc, h.ri, h.rw, h.rb, h.ok.le (Qcw N), (by rw [h.i]; exact h.m.gave (by omega)), h.s.gave P, h.l, h.t, h.e, h.f.trans (a6v h.m.pg.len)⟩⟩, IO⟩
 refine aw ?_
 refine ai (fun c8 => ?_) fun c8 => ?_
 refine aF rfl (vE call19 rfl (a4K W0 _ gb z g (by rw [h.c]; exact D.ok) (by rw [h.c]; exact D.rt) (by rw [h.c, h.i]; exact D.hi) p x P F D.n (by rw [h.c, h.i]; exact D.hn) (by rw [h.i, h.s.par]; exact D.par) (some ⟨D.wg, 0, none⟩) D.wl.length D.wl h.w (by intro A hA; refine cG.weak (k := hA) ?_; exact sX (b := D.wg) (fun _ => rfl) (Z1 D.wl).symm) D.wlb.1 D.wlb.2)) ?_
 rintro _ M ⟨y, q0, q1, q2, rfl, o⟩
 obtain rfl := o.symm
 refine aw ?_
 refine aF rfl (vE call48 rfl (a5Q W0 _ wb zr d g (by rw [h.rc]; exact D.ok) (by rw [h.rc]; exact D.rt) (by rw [h.rc, h.ri]; exact D.hi) p x I F D.n (by rw [h.rc, h.ri]; exact D.hn) (by rw [h.ri, h.s.par]; exact D.par) D.a D.cap D.ws h.rw D.hs D.hb D.hl D.hc)) ?_
 rintro _ M ⟨r', c', v', t', rfl, o⟩
 obtain rfl := o.symm
 rw [show je zr.i D.n D.ws x = je z.i D.n D.wl x by rw [D.anew, h.ri, h.i]]
 refine aw ?_
 refine ac ?_
 exact ⟨_, ⟨rfl, { z with x := y, q0 := q0, q1 := q1, q2 := q2 }, { zr with r := r', c := c', vic := v', tim := t' }, pX g, je z.i D.n D.wl x, [], [], d, rfl, ⟨h.c, h.i, h.w, h.bx, h.rc, h.ri, h.rw, h.rb, h.ok.anew H, (by rw [h.i]; exact h.m.anew (by omega) D.n8 (by rw [h.s.par]; exact D.par)), h.s.anew P (by omega), LRel.new, TRel.new, wN h.e, h.f.trans (by rw [h.i]; exact a6x h.m (by omega) D.n8)⟩⟩, IO⟩
 refine ai (fun U => ?_) fun U => ?_
 refine ah (cv call49 (a5G W0 _ wb zr g p q)) ?_
 refine ah (cN call50 (a4y W0 _ gb z g p q)) ?_
 refine ac ?_
 exact ⟨_, ⟨rfl, z, zr, ov (gY g) 4 0 0 g.c.pc, x, L, T, d, rfl, ⟨h.c, h.i, h.w, h.bx, h.rc, h.ri, h.rw, h.rb, h.ok.halt 4 0 0 g.c.pc, h.m, h.s, h.l, h.t, wN h.e, h.f⟩⟩, IO⟩
 refine ai (fun V => ?_) fun V => ?_
 refine ah (cv call51 (a6n gb z g q)) ?_
 refine bu fun b8 => ?_
 refine ar aA ?_
 refine ah (cv call52 (a5H W0 _ wb zr g q)) ?_
 refine bu fun x7 => ?_
 refine ar aA ?_
 refine aa (dV rfl rfl (by decide) rfl) ?_
 refine ah (cv call53 (a5I W0 _ wb zr g p q (a.n.tmod 20) a.w _ rfl)) ?_
 refine aa (dV rfl rfl (by decide) rfl) ?_
 refine ah (cN call54 (a4z W0 _ gb z g p q (a.n.tmod 20) a.w _ rfl)) ?_
 refine iT rfl rfl rfl (fun B => ?_) fun B => ?_
 refine ae rfl (aM rfl) ?_
 refine cM rfl rfl (ae rfl (aM rfl) (cM rfl rfl (ae rfl (iq rfl rfl) (ae rfl (lR rfl rfl) (ae rfl (aM rfl) ?_)))))
 refine iT rfl rfl rfl (fun u => ?_) fun u => ?_
 refine au 4 ?_
 refine aa (sI Tryz.eqGuardType127 rfl rfl (Jp (i := Tryz.t38) (ms := [bP g.c.rl 2, bP g.c.rl 3, bP g.c.rl 4, bP g.c.rl 5].map Int.ofNat) (ns := [bP g.c.rl 2, bP g.c.rl 3, bP g.c.rl 4, bP g.c.rl 5].map Int.ofNat) GR (by kernel_rfl) (by kernel_rfl) Ga pZ rfl rfl rfl rfl)) ?_
 refine ac ?_
 exact ⟨_, ⟨Qah Value.bool (Qbz _), z, zr, BE g (u32 (a.n.tmod 20)) a.w, x, L, T, d, rfl, ⟨h.c, h.i, h.w, h.bx, h.rc, h.ri, h.rw, h.rb, h.ok.answer (dJ _) E, h.m, h.s, h.l, h.t, wN h.e, h.f⟩⟩, IO⟩
 exact absurd rfl u
 exact absurd rfl B
 refine ai (fun W => ?_) fun W => ?_
 refine fj [(K, 0, rk a), (wb, 13, [pV zr.v])] 20 mixed rfl (bL (bj (io fun _ => rfl) aW)) (fun j => ?_)
 refine aj 0 1 j ?_
 refine aj 2 2 j ?_
 refine az 4 j (bG (d8 _)) ?_
 refine aj 5 2 j ?_
 refine aj 8 3 j ?_
 refine az 11 j (aE (ko (k := 1) rfl)) ?_
 refine aj 12 2 j ?_
 refine az 14 j (bG (d8 _)) ?_
 refine aj 15 2 j ?_
 refine fD 1 rfl rfl (ap zI (wF W0 _ gb z g)) (bL (bj (io fun _ => rfl) aW)) fun j => ?_
 refine fD 7 rfl rfl (cv call55 (a3l W0 _ z.x.m z.pv z.ps z.pm g.bud x.fr x.pg (u32 a.n) (dJ _) 4 a.w E)) (bL (bj (io fun _ => rfl) aW)) fun j => ?_
 refine fD 17 rfl rfl (cN call56 (WU zr.v zr.ps zr.pm d x.fr x.pg h.m.pg h.m.fr (u32 a.n) (dJ _) 4 a.w E)) (bL (bj (io fun _ => rfl) aW)) fun j => ?_
 refine aj 18 2 j ?_
 refine aJ ?_
 refine ac ?_
 exact ⟨_, ⟨Qah Value.bool (Qbz _), z, zr, g, a6e x a.n a.w, L, T, pL x.fr x.pg (u32 a.n) 4 d, rfl, ⟨h.c, h.i, h.w, h.bx, h.rc, h.ri, h.rw, h.rb, h.ok.le (Qcw N), h.m.vsave, h.s, h.l, h.t, h.e, h.f⟩⟩, IO⟩
 refine ai (fun X => ?_) fun X => ?_
 refine fj [(K, 0, rk a), (wb, 11, [pV zr.r])] 17 mixed rfl (bL (bj (io fun _ => rfl) aW)) (fun j => ?_)
 refine aj 0 5 j ?_
 refine aj 6 3 j ?_
 refine az 9 j (aE (ko (k := 1) rfl)) ?_
 refine aj 10 4 j ?_
 refine fD 5 rfl rfl (cv call57 (a4A W0 _ gb z g q a.n a.w)) (bL (bj (io fun _ => rfl) aW)) fun j => ?_
 refine fD 14 rfl rfl (ap zH (wI zr.r a.w a.n q)) (bL (bj (io fun _ => rfl) aW)) fun j => ?_
 refine aj 15 2 j ?_
 refine aJ ?_
 refine ac ?_
 refine ⟨_, ⟨Qah Value.bool (Qbz _), z, zr, FP g a.n a.w, x, L, T, d, rfl, ⟨h.c, h.i, h.w, h.bx, h.rc, h.ri, h.rw, h.rb, h.ok.setr a.n E, h.m, h.s, h.l, h.t, h.e, h.f⟩⟩, ?_⟩
 unfold dW gA rA
 rw [show dZ wb (zr, FP g a.n a.w) = dZ wb (zr, g) from rfl]
 exact IO
 refine ai (fun Y => ?_) fun Y => ?_
 refine bz [K] 10 fun j => ?_
 refine aj 0 1 j ?_
 refine aj 2 2 j ?_
 refine bY 1 (ap call26 (a4C W0 _ gb z g)) fun j => ?_
 refine bY 4 (ap call59 (a4c z.x.t g.tm a.n (by omega))) fun j => ?_
 refine aj 5 5 j ?_
 refine aJ ?_
 refine fj [(K, 0, rk a), (wb, 39, [pV zr.tim])] 12 mixed rfl (bL (bj (io fun _ => rfl) aW)) (fun j => ?_)
 refine aj 0 3 j ?_
 refine az 3 j (aE (ko (k := 1) rfl)) ?_
 refine aj 4 2 j ?_
 refine bQ 6 (ap call60 (a49 zr.tim T (by have := h.t.few; omega) a.n)) ?_; clear j
 rintro _ M ⟨rfl, o⟩
 obtain rfl := o.symm
 rw [← h.t.armI, ← h.t.armE]
 refine ⟨(bL (bj (io fun _ => rfl) aW)), fun j => ?_⟩
 refine aj 7 5 j ?_
 refine aJ ?_
 refine bN (fun C => ?_) fun C => ?_
 refine ac ?_
 refine ⟨_, ⟨Qah Value.bool (Qbz _), z, zr, FO g a.n, x, L, _, d, rfl, ⟨h.c, h.i, h.w, h.bx, h.rc, h.ri, h.rw, h.rb, h.ok.arm a.n, h.m, h.s, h.l, h.t.arm a.n (by omega), h.e, h.f⟩⟩, ?_⟩
 unfold dW gA rA
 rw [show dZ wb (zr, FO g a.n) = dZ wb (zr, g) from rfl]
 exact IO
 exact absurd rfl C
 obtain ⟨s, O⟩ : ∃ s, eS z.i g x.fr x.pg = s := ⟨_, rfl⟩
 have Z : eS zr.i g x.fr x.pg = s := by rw [h.ri, ← h.i]; exact O
 have x0 : GOk z s.1.2 (N + 1) := by rw [← O]; exact h.ok.step h.m.fr
 have x1 : s.1.2.es.length ≤ 4096 := by rw [← O]; exact a6B h.e
 have x2 : GMem D.i ⟨s.2, x.pg, x.po⟩ := by rw [← O, h.i]; exact h.m.step h.ok.c G
 have hq : s.1.2.qa = g.qa ∧ s.1.2.qb = g.qb ∧ s.1.2.qc = g.qc := by rw [← O]; exact a6g
 refine ah (xV GT rfl (BB W0 _ gb z g N x.fr x.pg hK hH h.ok (by omega) h.m.fr)) ?_
 rw [O]
 refine aF rfl (xV call62 rfl (a5D W0 _ wb zr g L T d x.fr x.pg h.m.pg h.m.fr h.ok.c J (by omega) h.l (by omega) h.t)) ?_
 rintro _ M ⟨L2, T2, rfl, o, Q, S⟩
 obtain rfl := o.symm
 rw [Z] at Q S ⊢
 refine aw ?_
 refine ac ?_
 refine ⟨_, ⟨Qah Value.bool (Qbz _), z, zr, s.1.2, ⟨s.2, x.pg, x.po⟩, L2, T2, d, rfl, ⟨h.c, h.i, h.w, h.bx, h.rc, h.ri, h.rw, h.rb, x0, x2, h.s, Q, S, x1, h.f⟩⟩, ?_⟩
 unfold dW gA rA
 rw [hq.1, hq.2.1, hq.2.2]
 exact IO
end
section
open Go.RowKit
abbrev nI (n : Nat) : Value := .int .i64 n
def dU (pg : List Pl) : Nat → List Nat
 | 0 => []
 | k + 1 => if aN pg ((k : Nat) : Int) = true then dU pg k ++ [k] else dU pg k
theorem FT pg : ∀ k, (dU pg k).length ≤ k
 | 0 => Qam _
 | k + 1 => by
  have := FT pg k
  rw [dU]; split <;> simp <;> omega
theorem C3 pg : ∀ k j, j < (dU pg k).length → aN pg ((dU pg k).getD j 0) = true ∧ (dU pg k).getD j 0 < k ∧ ∀ m, m < j → (dU pg k).getD m 0 < (dU pg k).getD j 0
 | 0, j, h => absurd h (QbE _)
 | k + 1, j, h => by
  by_cases q : aN pg ((k : Nat) : Int) = true
  rw [dU, Qad q] at h ⊢
  rw [Qae, QbV] at h
  have g : ∀ m, m < (dU pg k).length → (dU pg k ++ [k]).getD m 0 = (dU pg k).getD m 0 := fun m d => by simp [List.getD, QaB d]
  rcases QaC j (dU pg k).length with e | e
  obtain ⟨a, b, c⟩ := C3 pg k j e
  rw [g j e]
  exact ⟨a, by omega, fun m d => by rw [g m (by omega)]; exact c m d⟩
  have : j = (dU pg k).length := by omega
  subst this
  rw [show (dU pg k ++ [k]).getD (dU pg k).length 0 = k by simp [List.getD]]
  refine ⟨q, Nat.lt_succ_self k, fun m d => ?_⟩
  rw [g m d]
  exact (C3 pg k m d).2.1
  rw [dU, Qaa q] at h ⊢
  obtain ⟨a, b, c⟩ := C3 pg k j h
  exact ⟨a, by omega, c⟩
theorem a6E pm pg (h : Pgs pg) : sP W0 13 [pV pm] (pt pm (bI pg) :: R) (fun v B => ∃ a c, v = .slice a (dU pg 12).length c ∧ B = osl 3 1 (.slice a (dU pg 12).length c) ((dU pg 12).map nI) :: pt pm (bI pg) :: R) := by
 refine am func13 ntmps13 ?_
 refine ah (ap zt (vO pm pg h)) ?_
 refine ge (fun X : Nat × Option Addr × Nat => X.1 ≤ 12) (fun X => [(0, pV pm), (3, .slice X.2.1 (dU pg X.1).length X.2.2), (7, iQ X.1)]) (fun X => osl 3 1 (.slice X.2.1 (dU pg X.1).length X.2.2) ((dU pg X.1).map nI) :: pt pm (bI pg) :: R) (fun X => 12 - X.1) (0, none, 0) ?_ ?_ ?_ ?_
 exact QaG _
 · repeat (first | exact bK | refine aZ rfl ?_)
 exact fm (E := 3) (sz := 1) (k := ent_refl)
 intro ⟨k, a, d⟩ hk
 dsimp only at hk ⊢
 refine aw ?_
 refine aC rfl (fun f => ?_) fun f => ?_
 refine au 2 ?_
 refine cy (fun Z : Option Addr × Nat => k < 12) (fun Z => [(0, pV pm), (3, .slice Z.1 (dU pg (k + 1)).length Z.2), (7, iQ k)]) (fun Z => osl 3 1 (.slice Z.1 (dU pg (k + 1)).length Z.2) ((dU pg (k + 1)).map nI) :: pt pm (bI pg) :: R) ?_ ?_
 refine au 2 ?_
 have b : k < 12 := by omega
 have m := FT pg k
 refine aw ?_
 refine ah (ap Gj (Ad pm pg h ((k : Nat) : Int))) ?_
 refine ai (fun e => ?_) fun e => ?_
 refine dw (jP eJ aS ml rfl rfl rfl rfl rfl (by decide) (by decide)) fun n => ?_
 refine aF rfl (eE (sz := 1) (by_ := 8) (info := Tryz.t3) eJ (by kernel_rfl) rfl rfl rfl rfl (by decide) rfl rfl en rfl rfl (by simp only [maxLen]; omega) (by omega)) ?_
 rintro _ _ ⟨g, i, rfl, rfl⟩
 refine aw ?_
 refine df (g, i) ?_ ?_ ?_
 exact b
 · rw [show dU pg (k + 1) = dU pg k ++ [k] by rw [dU, Qad (by simpa using e)], show (dU pg k ++ [k]).length = (dU pg k).length + 1 by simp]
   repeat (first | exact bK | refine aZ rfl ?_)
 rw [show dU pg (k + 1) = dU pg k ++ [k] by rw [dU, Qad (by simpa using e)], show (dU pg k ++ [k]).length = (dU pg k).length + 1 by simp, show (dU pg k ++ [k]).map nI = (dU pg k).map nI ++ [nI k] by simp]
 exact IO
 refine df (a, d) ?_ ?_ ?_
 exact b
 · rw [show dU pg (k + 1) = dU pg k by rw [dU, Qaa (by simpa using e)]]
   repeat (first | exact bK | refine aZ rfl ?_)
 rw [show dU pg (k + 1) = dU pg k by rw [dU, Qaa (by simpa using e)]]
 exact IO
 intro ⟨j, l⟩ b
 refine aw ?_
 refine aa bW ?_
 refine bR (k + 1, j, l) ?_ (hμ := ?_)
 omega
 show 12 - (k + 1) < 12 - k; omega
 refine aw ?_
 refine ac ?_
 obtain rfl : k = 12 := by omega
 exact ⟨_, ⟨a, d, rfl, rfl⟩, IO⟩
section
variable (W0 : World) (R : List HP) (bm pv ps pm bud : Nat) (fr : List aD) (pg : List Pl)
theorem v6 : bF Tryz.prog W0 12 [pV pv] (gC bm ⟨pv, ps, pm, bud, fr, pg⟩ :: R) (fun v B => v = pV pm ∧ B = gC bm ⟨pv, ps, pm, bud, fr, pg⟩ :: R) := by
 refine pS fun c e a T L b d f g h i => ?_
 refine sW (B := pt pv (cg ps pm d) :: pt bm (cB pv c e) :: aU c (a, cT 4 b) :: bJ e L :: pt pm (bI pg) :: R) inferInstance ?_
 refine gQ (rL pv ps pm d) fun v B j => ?_
 obtain ⟨rfl, rfl⟩ := j
 exact ⟨_, ⟨rfl, rfl⟩, Ent.trans (B := pt bm (cB pv c e) :: aU c (a, cT 4 b) :: bJ e L :: pt pv (cg ps pm d) :: pt pm (bI pg) :: R) inferInstance (nH f g h i)⟩
theorem tN n : bF Tryz.prog W0 14 [pV pm, .int .i64 n] (gC bm ⟨pv, ps, pm, bud, fr, pg⟩ :: R) (fun v B => v = .tuple #[.agg (eM (bH pg n)).toArray, .bool (aN pg n)] ∧ B = gC bm ⟨pv, ps, pm, bud, fr, pg⟩ :: R) := by
 refine pS fun c e a T L b d g h i f => ?_
 refine sW (B := pt pm (bI pg) :: pt bm (cB pv c e) :: aU c (a, cT 4 b) :: bJ e L :: pt pv (cg ps pm d) :: R) inferInstance ?_
 refine gQ (sZ pm pg f.P n) fun v B j => ?_
 obtain ⟨rfl, rfl⟩ := j
 exact ⟨_, ⟨rfl, rfl⟩, Ent.trans (B := pt bm (cB pv c e) :: aU c (a, cT 4 b) :: bJ e L :: pt pv (cg ps pm d) :: pt pm (bI pg) :: R) inferInstance (nH g h i f)⟩
theorem a6F : bF Tryz.prog W0 13 [pV pm] (gC bm ⟨pv, ps, pm, bud, fr, pg⟩ :: R) (fun v B => ∃ a c, v = .slice a (dU pg 12).length c ∧ B = osl 3 1 (.slice a (dU pg 12).length c) ((dU pg 12).map nI) :: gC bm ⟨pv, ps, pm, bud, fr, pg⟩ :: R) := by
 refine pS fun f g b T L e d i j k h => ?_
 refine sW (B := pt pm (bI pg) :: pt bm (cB pv f g) :: aU f (b, cT 4 e) :: bJ g L :: pt pv (cg ps pm d) :: R) inferInstance ?_
 refine gQ (a6E pm pg h.P) fun v B l => ?_
 obtain ⟨a, c, rfl, rfl⟩ := l
 exact ⟨_, ⟨a, c, rfl, rfl⟩, Ent.cons (Ent.trans (B := pt bm (cB pv f g) :: aU f (b, cT 4 e) :: bJ g L :: pt pv (cg ps pm d) :: pt pm (bI pg) :: R) inferInstance (nH i j k h))⟩
theorem a6G : bF Tryz.prog W0 9 [pV bm] (gC bm ⟨pv, ps, pm, bud, fr, pg⟩ :: R)
    (fun v B => ∃ a c L T, v = .slice a (nO L T).length c ∧ MOk fr pg 0 L T ∧ T.length ≤ 4 ∧ B = osl 53 5 (.slice a (nO L T).length c) ((nO L T).flatMap si) :: gC bm ⟨pv, ps, pm, bud, fr, pg⟩ :: R) := by
 refine pS fun f g b T L e d k l m n => ?_
 refine sW (B := pt bm (cB pv f g) :: aU f (b, cT 4 e) :: bJ g L :: pt pv (cg ps pm d) :: pt pm (bI pg) :: R) inferInstance ?_
 refine gQ (a6t W0 _ bm pv f g ps pm d b 4 e T L fr pg k l (by decide) n) fun v B o => ?_
 obtain ⟨a, c, h, p, q, rfl, rfl, r, i, j, _⟩ := o
 exact ⟨_, ⟨a, c, q, p, rfl, j, i, rfl⟩, Ent.cons (nH r i m j)⟩
end
end
section
open Go.RowKit
set_option linter.unusedSimpArgs false
set_option linter.unusedVariables false
set_option maxRecDepth 20000
set_option synthInstance.maxSize 1000
set_option synthInstance.maxHeartbeats 400000
section
variable (W0 : World) (R : List HP) (gb : Nat) (z : Gz) (g : Gu)
theorem a6H : sQ W0 8 [pV gb] (pt gb (dA z g) :: R) (pV z.x.m) (pt gb (dA z g) :: R) := by
 refine am func8 ntmps8 ?_
 refine ah (ap oG (nJ W0 _ gb z g)) ?_
 exact ac ao
end
end
section
open Go.RowKit
set_option linter.unusedSimpArgs false
set_option linter.unusedVariables false
set_option maxRecDepth 20000
set_option synthInstance.maxSize 2000
set_option synthInstance.maxHeartbeats 1000000
attribute [local irreducible] cr cI
theorem a6I po i : (bS po i).length ≤ nL i po := by
 unfold bS nL
 rw [← List.countP_eq_length_filter, ← List.countP_eq_length_filter]
 refine List.countP_mono_left fun f _ h => ?_
 rw [eq_of_beq h]
 exact Qbz _
abbrev a6J (zb br : Nat) (R : List HP) : List HP := pt zb td :: pt br (ag [ej] 217) :: R
theorem N3 {r k} (h : 0 ≤ r ∧ r < 16) (a : k = 2 ∨ k = 4) (b : e8 r k = false) : (e6 .i64 r k == 0) = true := by
 obtain ⟨n, rfl, c⟩ : ∃ n : Nat, r = (n : Int) ∧ n < 16 := ⟨r.toNat, by omega, by omega⟩
 have : n = 0 ∨ n = 1 ∨ n = 2 ∨ n = 3 ∨ n = 4 ∨ n = 5 ∨ n = 6 ∨ n = 7 ∨ n = 8 ∨ n = 9 ∨ n = 10 ∨ n = 11 ∨ n = 12 ∨ n = 13 ∨ n = 14 ∨ n = 15 := by omega
 rcases this with rfl | rfl | rfl | rfl | rfl | rfl | rfl | rfl | rfl | rfl | rfl | rfl | rfl | rfl | rfl | rfl <;> rcases a with rfl | rfl <;> first | rfl | exact absurd b (by decide)
theorem a6K W0 (hK : ∀ A, bE (aQ W0 A) 1 0 jc) (hH : ∀ A, bE (aQ W0 A) 0 0 kX) (C K : Nat) (hp : C < 256) (ys : K < 256) ib wa9 ab cw cb ws as_ (yt : vx W0 wa9 1 iJ ws) (y6 : ∀ y ∈ ws, y < 4294967296) (y7 : ws.length < 9223372036854775808) (y8 : ws.length ≤ cw) (yu : vx W0 ab 3 rk as_) (yv : ∀ a ∈ as_, a.w < 4294967296) (zu : as_.length < 9223372036854775808) : sP W0 3 [.int .u8 C, .int .u8 K, .bool ib, .slice wa9 ws.length cw, .slice ab as_.length cb] [] (fun v B => v = .bool true) := by
 have hP := Mj C
 have b := a4O C K
 obtain ⟨i, yw⟩ : ∃ i : Nat, i = if ib then 1 else 0 := ⟨_, rfl⟩
 have yx : i < 2 := by rw [yw]; split <;> decide
 refine am Om ntmps3 ?_
 refine aF rfl (aB call5 (Ml C K hp ys)) ?_
 rintro _ B_ ⟨b1, b2, b3, rfl, p⟩
 obtain rfl := p.symm
 refine MU (fun v _ => v = .bool true) (fun v B hv => ⟨[], hv, MW (A := [_, _, _])⟩) fun W hW => ?_
 have x3 := Mk (lP C) (by omega) hP.1 (se C K) (by omega) b b1 b2 b3
 have xa : CfK W (pu (lP C) (se C K) b1 b2 b3) := Mn hW
 have xd : ∀ A, cG (aQ W A) wa9 1 iJ ws := w9 hW (HA yt)
 have y9 : ∀ A, cG (aQ W A) ab 3 rk as_ := w9 hW (HA yu)
 have ya := xY hW (hK _)
 have yb := xY hW (hH _)
 clear hW
 obtain ⟨F, xb⟩ : ∃ c, pu (lP C) (se C K) b1 b2 b3 = c := ⟨_, rfl⟩
 have xc : i < F.gl.length := by rw [← xb]; exact yx
 have yc : F.nl.length = 1 := by rw [← xb]; rfl
 have yy : ie F 0 = (0, 1) := by rw [← xb]; rfl
 rw [xb] at x3 xa
 rw [xb]
 have hM := Fz x3 xc ws
 have hR := jt x3
 have yz := Ep hR xc
 have zv := hR.nd
 have zw := hR.gs i xc
 have zx := a6I (e7 F (cp F)) i
 have xe := a6h F i ws (List.replicate (cp F) cC) (e7 F (cp F))
 obtain ⟨n, hn⟩ : ∃ n : Nat, (cJ F i).2.1 = (n : Int) := ⟨(cJ F i).2.1.toNat, by omega⟩
 refine bu fun Q => ?_
 refine iB 7 aA ?_
 refine cy (fun _ : Unit => True) (fun _ => [(3, .slice wa9 ws.length cw), (4, .slice ab as_.length cb), (11, pV Q), (12, iQ i)]) (fun _ => pt Q (eA F) :: []) ?_ ?_
 refine au 5 ?_
 refine ai (fun c3 => ?_) fun c3 => ?_
 obtain rfl : i = 1 := by cases ib <;> simp_all
 exact bq () trivial
 obtain rfl : i = 0 := by cases ib <;> simp_all
 exact bq () trivial
 intro _ _
 refine au 5 ?_
 refine aF rfl (aB call6 (MS F xa x3 i xc wa9 cw ws xd y6 y7 y8)) ?_
 rintro _ B_ ⟨M, z0, wg, V, xf, rfl, z1, z3, z4, z5, z6, z7, p⟩
 obtain rfl := p.symm
 obtain ⟨x0, xu⟩ : ∃ x, jf F i ws (List.replicate (cp F) cC) (e7 F (cp F)) = x := ⟨_, rfl⟩
 have z8 : ∀ t : Nat, 8 ≤ t → aN x0.pg t = true → t = 8 ∧ bH x0.pg t = (iY F 0, ic (ie F 0) i) ∧ ic (ie F 0) i ≠ 0 := fun t h8 ht => by
  rw [← xu] at ht ⊢
  exact a6w x3 xc yc h8 ht
 rw [xu] at hM xe ⊢
 have z9 : 0 < x0.po.length := by
  rw [xe.1]
  show 0 < (e7 F (cp F)).length
  rw [pd, cp]
  omega
 have yd : n ≤ nL i x0.po := by
  rw [xe.par]
  show n ≤ nL i (e7 F (cp F))
  omega
 obtain ⟨D, hD⟩ : ∃ D : Dg W, D = ⟨F, i, n, wg, bA ws 8, wa9, cw, ws, x0, z0.bx, xf.bx, xa, x3, xc, hn, yd, z9, rfl, xd, y6, y7, y8⟩ := ⟨_, rfl⟩
 have xg : D.wg = wg ∧ D.wl = bA ws 8 ∧ D.bx = z0.bx ∧ D.br = xf.bx ∧ D.c = F := by rw [hD]; exact ⟨rfl, rfl, rfl, rfl, rfl⟩
 have xv : D.c = F ∧ D.i = i ∧ D.x0 = x0 := by rw [hD]; exact ⟨rfl, rfl, rfl⟩
 have za : DInv D 0 z0 xf g0 x0 [] [] := by
  rw [hD]
  exact ⟨z1, z3, z4, rfl, z5, z6, z7, rfl, GOk.new (by omega), hM, ji.rfl' x0, LRel.new, TRel.new, QaG _, l5.rfl' x0⟩
 obtain ⟨RR, zb⟩ : ∃ RR, RR = a6J D.bx D.br [] := ⟨_, rfl⟩
 refine eK (B := dW M V D.wg z0 xf g0 x0 [] [] 0 D.wl (pt Q (eA F) :: RR)) (by rw [zb, xg.1, xg.2.1, xg.2.2.1, xg.2.2.2.1]; exact inferInstance) ?_
 clear xu xb xd hD xg
 refine au 17 ?_
 refine dk rfl rfl rfl (fun xh => ?_) fun xh => ?_
 first | cases xh | exact absurd xh (by simp)
 refine au 6 ?_
 refine aC rfl (fun c6 => ?_) fun c6 => ?_
 first | cases c6 | exact absurd c6 (by simp)
 refine au 2 ?_
 refine cy (fun _ : Unit => True) (fun _ => []) (fun _ => []) ?_ ?_
 refine au 6 ?_
 refine cW (fun Z : Nat × Gz × Rz × Gu × Mm × List Nat × List (Int × Int) × Nat => Z.1 ≤ 60 ∧ DInv D Z.1 Z.2.1 Z.2.2.1 Z.2.2.2.1 Z.2.2.2.2.1 Z.2.2.2.2.2.1 Z.2.2.2.2.2.2.1) (fun Z => [(4, .slice ab as_.length cb), (11, pV Q), (12, iQ i), (13, pV M), (14, pV V), (17, iQ Z.1)]) (fun Z => dW M V D.wg Z.2.1 Z.2.2.1 Z.2.2.2.1 Z.2.2.2.2.1 Z.2.2.2.2.2.1 Z.2.2.2.2.2.2.1 Z.2.2.2.2.2.2.2 D.wl (pt Q (eA F) :: RR)) (fun Z => 60 - Z.1) (0, z0, xf, g0, x0, [], [], 0) ?_ ?_
 exact ⟨QaG _, za⟩
 intro ⟨k, z, zr, g, x, L, T, d⟩ ⟨hk, hI⟩
 dsimp only at hk hI ⊢
 refine au 8 ?_
 refine bN (fun ye => ?_) fun ye => ?_
 refine ai (fun c9 => ?_) fun c9 => ?_
 have xw : k < as_.length := by omega
 have zt : k < 60 := by omega
 obtain ⟨ga, o, zc, hc⟩ := (y9 []).at_ xw
 obtain ⟨a, ha⟩ : ∃ a, as_[k] = a := ⟨_, rfl⟩
 have yf := yv _ (QaF xw)
 rw [ha] at hc yf
 refine aa (ek Nr sizeOf40 rfl zc rfl rfl xw (by first | exact Qac _ | rfl)) ?_
 refine aa (dj hc.weak) ?_
 refine aF rfl (aB call7 (a6D W (pt Q (eA F) :: RR) ya yb D M V k (by omega) z zr g x L T d hI a yf)) ?_
 rintro _ B_ ⟨rfl, h, X, J, u, L2, T2, d2, p, xm⟩
 obtain rfl := p.symm
 have xi : GMem i u := by rw [← xv.2.1]; exact xm.m
 have yg : ji x0 u := by rw [← xv.2.2]; exact xm.s
 have zd : l5 x0 u := by rw [← xv.2.2]; exact xm.f
 refine au 5 ?_
 refine ah (ap call8 (a6H W _ M h J)) ?_
 refine aF rfl (ap call9 (a6G W _ h.x.m h.pv h.ps h.pm J.bud u.fr u.pg)) ?_
 rintro _ B_ ⟨ak, ck, LL, TT, rfl, xx, ze, p⟩
 obtain rfl := p.symm
 have yh : ∀ y ∈ nO LL TT, _ := fun y hy => a6z x3 yc xe yg zd z8 xi xx hy
 obtain ⟨Y, xy⟩ : ∃ l, nO LL TT = l := ⟨_, rfl⟩
 have zf : Y.length ≤ 36 := by rw [← xy, FQ]; have := xx.ti.len; omega
 rw [xy] at yh ⊢
 clear xy xx ze
 refine au 10 ?_
 refine cW (fun j : Nat => j ≤ Y.length) (fun j => [(4, .slice ab as_.length cb), (11, pV Q), (12, iQ i), (13, pV M), (14, pV V), (17, iQ k), (18, .slice ak Y.length ck), (19, iQ j)]) (fun j => osl 53 5 (.slice ak Y.length ck) (Y.flatMap si) :: dW M V D.wg h X J u L2 T2 d2 D.wl (pt Q (eA F) :: RR)) (fun j => Y.length - j) 0 ?_ ?_
 exact QaG _
 intro j hj
 refine au 9 ?_
 refine aC rfl (fun zg => ?_) fun zg => ?_
 have N : j < Y.length := by omega
 refine mr (E := 53) (sz := 5) (a := ak) (n := Y.length) (c := ck) si Y (fun _ => rfl) (by decide) rfl fun zh => ?_
 obtain ⟨zi, o2, x4, R⟩ := zh.at_ N
 obtain ⟨y, hy⟩ : ∃ y, Y[j] = y := ⟨_, rfl⟩
 obtain ⟨f, hf, S, xj⟩ := yh _ (QaF N)
 rw [hy] at R hf S xj
 obtain ⟨o, ho⟩ : ∃ o, lr F f = o := ⟨_, rfl⟩
 rw [ho] at S
 have hA : (o.1 == 1 && o.2 == (i : Int)) = true → y.2.1 < 8 := fun q => by
  rcases S with ⟨e, q2⟩ | ⟨e, _⟩
  exact q2
  rw [e] at q; exact absurd q (by simp)
 have hB : (o.1 == 1 && o.2 == (i : Int)) = false → o = (2, 0) ∧ y.2.1 = 8 ∧ (e6 .i64 y.2.2.2 4 == 0) = true ∧ ((i : Int) = 0 ∨ (e6 .i64 y.2.2.2 2 == 0) = true) := fun q => by
  rcases S with ⟨e, q2⟩ | ⟨e, e1, e2, e3⟩
  rw [e] at q; exact absurd q (by simp)
  refine ⟨e, e1, N3 xj (.inr rfl) e2, ?_⟩
  have : i = 0 ∨ i = 1 := by omega
  rcases this with rfl | rfl
  exact .inl rfl
  exact .inr (N3 xj (.inl rfl) (e3 (by rw [yy]; rfl)))
 clear S
 obtain ⟨mB, xn⟩ : ∃ m, (o.1 == 1 && o.2 == (i : Int)) = m := ⟨_, rfl⟩
 rw [xn] at hA hB
 refine au 4 ?_
 refine cy (fun U : Nat => True) (fun U => [(4, .slice ab as_.length cb), (11, pV Q), (12, iQ i), (13, pV M), (14, pV V), (17, iQ k), (18, .slice ak Y.length ck), (19, iQ j), (20, pV U)]) (fun U => pt U (ag (wi o) 46) :: osl 53 5 (.slice ak Y.length ck) (Y.flatMap si) :: dW M V D.wg h X J u L2 T2 d2 D.wl (pt Q (eA F) :: RR)) ?_ ?_
 refine fj [(Q, 0, dy F), (zi, o2 + j * 5, si y)] 10 mixed rfl (bL (bj R.weak aW)) (fun b => ?_)
 refine aj 0 3 b ?_
 refine az 3 b (ek qe mi rfl x4 rfl rfl N (by first | exact Qac _ | rfl)) ?_
 refine aj 4 2 b ?_
 refine az 6 b (aE (km (k := 1) (j := 3) (v := iQ (f : Int)) rfl (by rw [← hf]; rfl))) ?_
 refine eD (is := [7, 8]) (by kernel_rfl) rfl ⟨?_, ?_, trivial⟩
 refine cX (aB On (Et F xa f)) ?_; clear b
 rintro _ B_ ⟨rfl, p⟩
 obtain rfl := p.symm
 rw [ho]
 refine ⟨(bL (bj R.weak aW)), fun b => ?_⟩
 refine bQ 8 (di NF) ?_; clear b
 rintro _ _ ⟨U, rfl, rfl⟩
 refine ⟨(bL (bj R.weak aW)), fun b => ?_⟩
 refine iC 9 rfl rfl aA (bL (bj R.weak aW)) fun b => ?_
 refine aJ ?_
 exact bq U trivial
 skip
 refine cX (di NF) ?_; clear b
 rintro _ _ ⟨U, rfl, rfl⟩
 refine ⟨(bL (bj R.weak aW)), fun b => ?_⟩
 refine bQ 7 (aB On (Et F xa f)) ?_; clear b
 rintro _ B_ ⟨rfl, p⟩
 obtain rfl := p.symm
 rw [ho]
 refine ⟨(bL (bj R.weak aW)), fun b => ?_⟩
 refine iC 9 rfl rfl aA (bL (bj R.weak aW)) fun b => ?_
 refine aJ ?_
 exact bq U trivial
 intro U _
 refine cy (fun _ : Unit => True) (fun _ => [(4, .slice ab as_.length cb), (11, pV Q), (12, iQ i), (13, pV M), (14, pV V), (17, iQ k), (18, .slice ak Y.length ck), (19, iQ j), (20, pV U), (21, .bool mB)]) (fun _ => pt U (ag (wi o) 46) :: osl 53 5 (.slice ak Y.length ck) (Y.flatMap si) :: dW M V D.wg h X J u L2 T2 d2 D.wl (pt Q (eA F) :: RR)) ?_ ?_
 refine au 4 ?_
 refine aa (sI Tryz.eqGuardType46 rfl rfl (sH Gc Tryz.stoodInHeld46 (lT rfl db rfl rfl (lS jj) (lT rfl db rfl rfl (lS jj) sG)))) ?_
 refine bN (fun x5 => ?_) fun x5 => ?_
 have xo : mB = true := xn.symm.trans (by simpa using x5)
 have h8 := hA xo
 refine aa (ek qe mi rfl x4 rfl rfl N (by first | exact Qac _ | rfl)) ?_
 refine aa (aE (R.weak 2 _ rfl)) ?_
 refine df () ?_ ?_ ?_
 trivial
 · rw [xo, Qai h8]
   repeat (first | exact bK | refine aZ rfl ?_)
 exact IO
 have xz : mB = false := xn.symm.trans (by simpa using x5)
 refine df () ?_ ?_ ?_
 trivial
 · rw [xz]
   repeat (first | exact bK | refine aZ rfl ?_)
 exact IO
 intro _ _
 refine cy (fun rB : Bool => (mB || rB) = true) (fun rB => [(4, .slice ab as_.length cb), (11, pV Q), (12, iQ i), (13, pV M), (14, pV V), (17, iQ k), (18, .slice ak Y.length ck), (19, iQ j), (21, .bool mB), (22, .bool rB)]) (fun rB => osl 53 5 (.slice ak Y.length ck) (Y.flatMap si) :: dW M V D.wg h X J u L2 T2 d2 D.wl (pt Q (eA F) :: RR)) ?_ ?_
 refine au 3 ?_
 refine aa (sI Tryz.eqGuardType46 rfl rfl (sH Gc Tryz.stoodInHeld46 (lT rfl db rfl rfl (lS jj) (lT rfl db rfl rfl (lS jj) sG)))) ?_
 refine bN (fun x6 => ?_) fun x6 => ?_
 have xz : mB = false := by
  have q : (o.1 == 2) = true := by have := x6; simp at this; simp [this.1]
  rw [← xn]; have := eq_of_beq q; rw [this]; rfl
 obtain ⟨_, k2, k3, k4⟩ := hB xz
 refine aa (ek qe mi rfl x4 rfl rfl N (by first | exact Qac _ | rfl)) ?_
 refine aa (aE (R.weak 2 _ rfl)) ?_
 refine bN (fun x7 => ?_) fun x7 => ?_
 refine aa (ek qe mi rfl x4 rfl rfl N (by first | exact Qac _ | rfl)) ?_
 refine aa (aE (R.weak 4 _ rfl)) ?_
 refine aa (eC rfl rfl rfl) ?_
 refine bN (fun x8 => ?_) fun x8 => ?_
 refine cn (fun x1 => ?_) fun x1 => ?_
 refine df true ?_ ?_ ?_
 rw [QcE]
 · first | ((repeat (first | exact bK | refine aZ rfl ?_)); done) | (rw [k4.resolve_left (by simpa using x1)]; repeat (first | exact bK | refine aZ rfl ?_))
 exact IO
 refine aa (ek qe mi rfl x4 rfl rfl N (by first | exact Qac _ | rfl)) ?_
 refine aa (aE (R.weak 4 _ rfl)) ?_
 refine aa (eC rfl rfl rfl) ?_
 refine df true ?_ ?_ ?_
 rw [QcE]
 · first | ((repeat (first | exact bK | refine aZ rfl ?_)); done) | (rw [k4.resolve_left (by simpa using x1)]; repeat (first | exact bK | refine aZ rfl ?_))
 exact IO
 exact absurd k3 (by simpa using x8)
 exact absurd k2 (by simpa using x7)
 have xo : mB = true := by
  cases e : mB with
  | true => rfl
  | false => have := (hB e).1; exfalso; apply x6; rw [this]; exact ⟨rfl, rfl, rfl⟩
 refine bq false ?_
 rw [xo]; rfl
 intro rB zj
 refine au 5 ?_
 refine bN (fun xk => ?_) fun xk => ?_
 refine aC rfl (fun y0 => ?_) fun y0 => ?_
 first | cases y0 | (exfalso; revert zj xk y0; cases mB <;> cases rB <;> decide)
 refine au 5 ?_
 refine aa bW ?_
 exact bR (j + 1) (by omega)
 refine aa bW ?_
 exact bR (j + 1) (by omega)
 refine aw ?_
 refine ah (ap zI (wF W _ M h J)) ?_
 refine ah (ap nT (v6 W _ h.x.m h.pv h.ps h.pm J.bud u.fr u.pg)) ?_
 refine aF rfl (ap call13 (a6F W _ h.x.m h.pv h.ps h.pm J.bud u.fr u.pg)) ?_
 rintro _ B_ ⟨al, cl, rfl, p⟩
 obtain rfl := p.symm
 have y1 := C3 u.pg 12
 have zk := FT u.pg 12
 obtain ⟨P, xs⟩ : ∃ l, dU u.pg 12 = l := ⟨_, rfl⟩
 rw [xs] at y1 zk ⊢
 clear xs
 refine aw ?_
 refine cW (fun j : Nat => j ≤ P.length) (fun j => [(4, .slice ab as_.length cb), (11, pV Q), (12, iQ i), (13, pV M), (14, pV V), (17, iQ k), (23, .slice al P.length cl), (24, iQ j)]) (fun j => osl 3 1 (.slice al P.length cl) (P.map nI) :: dW M V D.wg h X J u L2 T2 d2 D.wl (pt Q (eA F) :: RR)) (fun j => P.length - j) 0 ?_ ?_
 exact QaG _
 intro j hj
 refine aw ?_
 refine aC rfl (fun zl => ?_) fun zl => ?_
 have N : j < P.length := by omega
 refine mr (E := 3) (sz := 1) (a := al) (n := P.length) (c := cl) (fun n => [nI n]) P (fun _ => rfl) (by decide) (II nI P).symm fun yi => ?_
 obtain ⟨zm, o3, xt, G⟩ := yi.at_ N
 obtain ⟨xp, yj, yk⟩ := y1 j N
 obtain ⟨y, hy⟩ : ∃ y, P[j] = y := ⟨_, rfl⟩
 have zn : P.getD j 0 = y := by simp [List.getD, N, hy]
 rw [zn] at xp yj yk
 rw [hy] at G
 obtain ⟨f, hf, zy, yz⟩ := xi.at_ xp
 obtain ⟨r, hr⟩ : ∃ r, (bH u.pg (y : Int)).2 = r := ⟨_, rfl⟩
 have xq : bH u.pg (y : Int) = ((f : Int), r) := Prod.ext hf hr
 have yl : y < 8 → lr F f = (1, (i : Int)) := fun h8 => by
  obtain ⟨f2, e1, e2⟩ := N2 (ws := []) x3 xe yg xi h8 xp
  have : f2 = f := by have := e1.symm.trans hf; omega
  rw [← this]; exact e2
 refine au 4 ?_
 refine cy (fun H : Nat => True) (fun H => [(4, .slice ab as_.length cb), (11, pV Q), (12, iQ i), (13, pV M), (14, pV V), (17, iQ k), (23, .slice al P.length cl), (24, iQ j), (25, pV H)]) (fun H => pt H (ag (eM ((f : Int), r)) 61) :: osl 3 1 (.slice al P.length cl) (P.map nI) :: dW M V D.wg h X J u L2 T2 d2 D.wl (pt Q (eA F) :: RR)) ?_ ?_
 refine fj [(zm, o3 + j * 1, [nI y])] 14 mixed rfl (bj G.weak aW) (fun b => ?_)
 refine aj 0 1 b ?_
 refine aj 3 2 b ?_
 refine az 5 b (ek eJ aS rfl xt rfl rfl N (by first | exact Qac _ | rfl)) ?_
 refine az 6 b (aE (ko (k := 0) rfl)) ?_
 refine eD (is := [1, 11]) (by kernel_rfl) rfl ⟨?_, ?_, trivial⟩
 refine cX (ap zI (wF W _ M h J)) ?_; clear b
 rintro _ B_ ⟨rfl, p⟩
 obtain rfl := p.symm
 refine ⟨(bj G.weak aW), fun b => ?_⟩
 refine eD (is := [2, 11]) (by kernel_rfl) rfl ⟨?_, ?_, trivial⟩
 refine cX (ap nT (v6 W _ h.x.m h.pv h.ps h.pm J.bud u.fr u.pg)) ?_; clear b
 rintro _ B_ ⟨rfl, p⟩
 obtain rfl := p.symm
 refine ⟨(bj G.weak aW), fun b => ?_⟩
 refine eD (is := [7, 11]) (by kernel_rfl) rfl ⟨?_, ?_, trivial⟩
 refine cX (ap nS (tN W _ h.x.m h.pv h.ps h.pm J.bud u.fr u.pg y)) ?_; clear b
 rintro _ B_ ⟨rfl, p⟩
 obtain rfl := p.symm
 rw [xq]
 refine ⟨(bj G.weak aW), fun b => ?_⟩
 refine aj 8 3 b ?_
 refine bQ 11 (di pB) ?_; clear b
 rintro _ _ ⟨H, rfl, rfl⟩
 refine ⟨(bj G.weak aW), fun b => ?_⟩
 refine iC 12 rfl rfl aA (bj G.weak aW) fun b => ?_
 refine aj 13 1 b ?_
 refine aJ ?_
 exact bq H trivial
 skip
 refine cX (di pB) ?_; clear b
 rintro _ _ ⟨H, rfl, rfl⟩
 refine ⟨(bj G.weak aW), fun b => ?_⟩
 refine bQ 7 (ap nS (tN W _ h.x.m h.pv h.ps h.pm J.bud u.fr u.pg y)) ?_; clear b
 rintro _ B_ ⟨rfl, p⟩
 obtain rfl := p.symm
 rw [xq]
 refine ⟨(bj G.weak aW), fun b => ?_⟩
 refine aj 8 3 b ?_
 refine iC 12 rfl rfl aA (bj G.weak aW) fun b => ?_
 refine aj 13 1 b ?_
 refine aJ ?_
 exact bq H trivial
 skip
 refine cX (di pB) ?_; clear b
 rintro _ _ ⟨H, rfl, rfl⟩
 refine ⟨(bj G.weak aW), fun b => ?_⟩
 refine fD 2 rfl rfl (ap nT (v6 W _ h.x.m h.pv h.ps h.pm J.bud u.fr u.pg)) (bj G.weak aW) fun b => ?_
 refine bQ 7 (ap nS (tN W _ h.x.m h.pv h.ps h.pm J.bud u.fr u.pg y)) ?_; clear b
 rintro _ B_ ⟨rfl, p⟩
 obtain rfl := p.symm
 rw [xq]
 refine ⟨(bj G.weak aW), fun b => ?_⟩
 refine aj 8 3 b ?_
 refine iC 12 rfl rfl aA (bj G.weak aW) fun b => ?_
 refine aj 13 1 b ?_
 refine aJ ?_
 exact bq H trivial
 skip
 refine cX (di pB) ?_; clear b
 rintro _ _ ⟨H, rfl, rfl⟩
 refine ⟨(bj G.weak aW), fun b => ?_⟩
 refine fD 1 rfl rfl (ap zI (wF W _ M h J)) (bj G.weak aW) fun b => ?_
 refine fD 2 rfl rfl (ap nT (v6 W _ h.x.m h.pv h.ps h.pm J.bud u.fr u.pg)) (bj G.weak aW) fun b => ?_
 refine bQ 7 (ap nS (tN W _ h.x.m h.pv h.ps h.pm J.bud u.fr u.pg y)) ?_; clear b
 rintro _ B_ ⟨rfl, p⟩
 obtain rfl := p.symm
 rw [xq]
 refine ⟨(bj G.weak aW), fun b => ?_⟩
 refine aj 8 3 b ?_
 refine iC 12 rfl rfl aA (bj G.weak aW) fun b => ?_
 refine aj 13 1 b ?_
 refine aJ ?_
 exact bq H trivial
 intro H _
 refine cy (fun _ : Unit => True) (fun _ => [(4, .slice ab as_.length cb), (11, pV Q), (12, iQ i), (13, pV M), (14, pV V), (17, iQ k), (23, .slice al P.length cl), (24, iQ j), (25, pV H)]) (fun _ => pt H (ag (eM ((f : Int), r)) 61) :: osl 3 1 (.slice al P.length cl) (P.map nI) :: dW M V D.wg h X J u L2 T2 d2 D.wl (pt Q (eA F) :: RR)) ?_ ?_
 refine au 4 ?_
 refine aa (ek eJ aS rfl xt rfl rfl N (by first | exact Qac _ | rfl)) ?_
 refine aa (aE (G.weak 0 _ rfl)) ?_
 refine bN (fun y2 => ?_) fun y2 => ?_
 refine ah (aB On (Et F xa f)) ?_
 rw [yl (by omega)]
 refine aa (H6 Tryz.eqGuardType46 rfl rfl (sH Gc Tryz.stoodInHeld46 (lT rfl db rfl rfl (lS jj) (lT rfl db rfl rfl (lS jj) sG)))) ?_
 refine aC rfl (fun y3 => ?_) fun y3 => ?_
 first | exact absurd y3 (by simp) | cases y3
 refine aw ?_
 exact bq () trivial
 exact bq () trivial
 intro _ _
 refine aw ?_
 refine cW (fun m : Nat => m ≤ j) (fun m => [(4, .slice ab as_.length cb), (11, pV Q), (12, iQ i), (13, pV M), (14, pV V), (17, iQ k), (23, .slice al P.length cl), (24, iQ j), (25, pV H), (27, iQ m)]) (fun m => pt H (ag (eM ((f : Int), r)) 61) :: osl 3 1 (.slice al P.length cl) (P.map nI) :: dW M V D.wg h X J u L2 T2 d2 D.wl (pt Q (eA F) :: RR)) (fun m => j - m) 0 ?_ ?_
 exact QaG _
 intro m hm
 refine aw ?_
 refine aC rfl (fun zo => ?_) fun zo => ?_
 have zp : m < j := by omega
 have xr : m < P.length := by omega
 obtain ⟨zq, o4, ym, I⟩ := yi.at_ xr
 obtain ⟨xl, _, _⟩ := y1 m xr
 obtain ⟨y4, yn⟩ : ∃ y, P[m] = y := ⟨_, rfl⟩
 have yo : P.getD m 0 = y4 := by simp [List.getD, xr, yn]
 have yp := yk m zp
 rw [yo] at xl yp
 rw [yn] at I
 obtain ⟨f4, yq, _, _⟩ := xi.at_ xl
 obtain ⟨r4, zs⟩ : ∃ r, (bH u.pg (y4 : Int)).2 = r := ⟨_, rfl⟩
 have x9 : bH u.pg (y4 : Int) = ((f4 : Int), r4) := Prod.ext yq zs
 have yr : (f4 : Int) ≠ (f : Int) := fun e => by
  have := xi.pl.inj (y4 : Int) (y : Int) xl xp (by rw [yq, hf, e])
  omega
 refine au 4 ?_
 refine cy (fun O : Nat => True) (fun O => [(4, .slice ab as_.length cb), (11, pV Q), (12, iQ i), (13, pV M), (14, pV V), (17, iQ k), (23, .slice al P.length cl), (24, iQ j), (25, pV H), (27, iQ m), (28, pV O)]) (fun O => pt O (ag (eM ((f4 : Int), r4)) 61) :: pt H (ag (eM ((f : Int), r)) 61) :: osl 3 1 (.slice al P.length cl) (P.map nI) :: dW M V D.wg h X J u L2 T2 d2 D.wl (pt Q (eA F) :: RR)) ?_ ?_
 refine fj [(zq, o4 + m * 1, [nI y4])] 14 mixed rfl (bj I.weak aW) (fun b => ?_)
 refine aj 0 1 b ?_
 refine aj 3 2 b ?_
 refine az 5 b (ek eJ aS rfl ym rfl rfl xr (by first | exact Qac _ | rfl)) ?_
 refine az 6 b (aE (ko (k := 0) rfl)) ?_
 refine eD (is := [1, 11]) (by kernel_rfl) rfl ⟨?_, ?_, trivial⟩
 refine cX (ap zI (wF W _ M h J)) ?_; clear b
 rintro _ B_ ⟨rfl, p⟩
 obtain rfl := p.symm
 refine ⟨(bj I.weak aW), fun b => ?_⟩
 refine eD (is := [2, 11]) (by kernel_rfl) rfl ⟨?_, ?_, trivial⟩
 refine cX (ap nT (v6 W _ h.x.m h.pv h.ps h.pm J.bud u.fr u.pg)) ?_; clear b
 rintro _ B_ ⟨rfl, p⟩
 obtain rfl := p.symm
 refine ⟨(bj I.weak aW), fun b => ?_⟩
 refine eD (is := [7, 11]) (by kernel_rfl) rfl ⟨?_, ?_, trivial⟩
 refine cX (ap nS (tN W _ h.x.m h.pv h.ps h.pm J.bud u.fr u.pg y4)) ?_; clear b
 rintro _ B_ ⟨rfl, p⟩
 obtain rfl := p.symm
 rw [x9]
 refine ⟨(bj I.weak aW), fun b => ?_⟩
 refine aj 8 3 b ?_
 refine bQ 11 (di pB) ?_; clear b
 rintro _ _ ⟨O, rfl, rfl⟩
 refine ⟨(bj I.weak aW), fun b => ?_⟩
 refine iC 12 rfl rfl aA (bj I.weak aW) fun b => ?_
 refine aj 13 1 b ?_
 refine aJ ?_
 exact bq O trivial
 skip
 refine cX (di pB) ?_; clear b
 rintro _ _ ⟨O, rfl, rfl⟩
 refine ⟨(bj I.weak aW), fun b => ?_⟩
 refine bQ 7 (ap nS (tN W _ h.x.m h.pv h.ps h.pm J.bud u.fr u.pg y4)) ?_; clear b
 rintro _ B_ ⟨rfl, p⟩
 obtain rfl := p.symm
 rw [x9]
 refine ⟨(bj I.weak aW), fun b => ?_⟩
 refine aj 8 3 b ?_
 refine iC 12 rfl rfl aA (bj I.weak aW) fun b => ?_
 refine aj 13 1 b ?_
 refine aJ ?_
 exact bq O trivial
 skip
 refine cX (di pB) ?_; clear b
 rintro _ _ ⟨O, rfl, rfl⟩
 refine ⟨(bj I.weak aW), fun b => ?_⟩
 refine fD 2 rfl rfl (ap nT (v6 W _ h.x.m h.pv h.ps h.pm J.bud u.fr u.pg)) (bj I.weak aW) fun b => ?_
 refine bQ 7 (ap nS (tN W _ h.x.m h.pv h.ps h.pm J.bud u.fr u.pg y4)) ?_; clear b
 rintro _ B_ ⟨rfl, p⟩
 obtain rfl := p.symm
 rw [x9]
 refine ⟨(bj I.weak aW), fun b => ?_⟩
 refine aj 8 3 b ?_
 refine iC 12 rfl rfl aA (bj I.weak aW) fun b => ?_
 refine aj 13 1 b ?_
 refine aJ ?_
 exact bq O trivial
 skip
 refine cX (di pB) ?_; clear b
 rintro _ _ ⟨O, rfl, rfl⟩
 refine ⟨(bj I.weak aW), fun b => ?_⟩
 refine fD 1 rfl rfl (ap zI (wF W _ M h J)) (bj I.weak aW) fun b => ?_
 refine fD 2 rfl rfl (ap nT (v6 W _ h.x.m h.pv h.ps h.pm J.bud u.fr u.pg)) (bj I.weak aW) fun b => ?_
 refine bQ 7 (ap nS (tN W _ h.x.m h.pv h.ps h.pm J.bud u.fr u.pg y4)) ?_; clear b
 rintro _ B_ ⟨rfl, p⟩
 obtain rfl := p.symm
 rw [x9]
 refine ⟨(bj I.weak aW), fun b => ?_⟩
 refine aj 8 3 b ?_
 refine iC 12 rfl rfl aA (bj I.weak aW) fun b => ?_
 refine aj 13 1 b ?_
 refine aJ ?_
 exact bq O trivial
 intro O _
 refine aw ?_
 refine aC rfl (fun y5 => ?_) fun y5 => ?_
 first | exact absurd y5 yr | exact yr (by simpa using y5)
 refine aw ?_
 refine aa bW ?_
 exact bR (m + 1) (by omega)
 refine aw ?_
 refine aa bW ?_
 exact bR (j + 1) (by omega)
 refine aw ?_
 refine aa bW ?_
 exact bR (k + 1, h, X, J, u, L2, T2, d2) (⟨by omega, xm⟩)
 exact bq () trivial
 exact bq () trivial
 intro _ _
 refine aw ?_
 refine ah (aB call15 (a6d ya yb)) ?_
 refine ac ?_
 exact ⟨[], rfl, IO⟩
end
section
open Go.RowKit
section
variable {P : Program} {w : World} {enc : TypeId × Value → Unit} {base : Nat} {sp : Nat → Bool} {held : Bool}
theorem FU {c t cs a b f0 f1 p} (m : P.underlying t = some (.struct #[f0, f1])) (n : P.underlying f0.type = some (.int .i64)) (o : P.underlying f1.type = some (.int .i64)) (q : f0.offset = 0) (r : f1.offset = 1) (s : P.cellsOf f0.type = 1) (x : P.cellsOf f1.type = 1) (y : P.cellsOf t = 2)
    (h : DataW.trod enc P w base sp held c t cs = some (.agg [.lit (.int .i64 a), .lit (.int .i64 b)], p)) : cs = [.int .i64 a, .int .i64 b] := by
 cases c with
 | zero => simp [DataW.trod] at h
 | succ c =>
  simp only [DataW.trod, m] at h
  split at h
  rename_i j
  rw [y] at j
  obtain ⟨z, f, A⟩ := Option.map_eq_some_iff.1 h
  obtain ⟨D, k, B⟩ := QcU f 0 f0 rfl
  obtain ⟨E, l, C⟩ := QcU f 1 f1 rfl
  obtain ⟨F, g, rfl, _⟩ := DataW.trod_int n B
  obtain ⟨G, i, rfl, _⟩ := DataW.trod_int o C
  rw [q, s] at g
  rw [r, x] at i
  match cs, j with
  | [u, v], _ =>
   simp at g i
   have d := Qah Prod.fst A
   have e := Go.Lib.mapM_length f
   match z, e with
   | [H, I], _ =>
    simp at k l
    subst k; subst l
    simp at d
    rw [g, i, d.1, d.2]
  cases h
theorem a6L {a t e cs f0 f1 p} (y : P.underlying t = some (.array 3 e)) (k : P.underlying e = some (.struct #[f0, f1])) (l : P.underlying f0.type = some (.int .i64)) (m : P.underlying f1.type = some (.int .i64)) (n : f0.offset = 0) (o : f1.offset = 1) (q : P.cellsOf f0.type = 1) (r : P.cellsOf f1.type = 1) (d : P.cellsOf e = 2) (z : P.cellsOf t = 6)
    (h : DataW.trod enc P w base sp held a t cs = some (.agg [.agg [.lit (.int .i64 0), .lit (.int .i64 4)], .agg [.lit (.int .i64 1), .lit (.int .i64 1)], .agg [.lit (.int .i64 2), .lit (.int .i64 2)]], p)) : cs = jc := by
 cases a with
 | zero => simp [DataW.trod] at h
 | succ a =>
  simp only [DataW.trod, y] at h
  split at h
  rename_i s
  rw [z] at s
  obtain ⟨A, f, B⟩ := Option.map_eq_some_iff.1 h
  obtain ⟨⟨F, G⟩, u, C⟩ := QcU f 0 0 rfl
  obtain ⟨⟨H, I⟩, v, D⟩ := QcU f 1 1 rfl
  obtain ⟨⟨J, K⟩, x, E⟩ := QcU f 2 2 rfl
  have b := Qah Prod.fst B
  have c := Go.Lib.mapM_length f
  match A, c with
  | [L, M, N], _ =>
   simp at u v x
   subst u; subst v; subst x
   simp at b
   obtain ⟨rfl, rfl, rfl⟩ := b
   have g := FU k l m n o q r d C
   have i := FU k l m n o q r d D
   have j := FU k l m n o q r d E
   rw [d] at g i j
   match cs, s with
   | [O, Q, R, S, T, U], _ =>
    simp at g i j
    rw [g.1, g.2, i.1, i.2, j.1, j.2]
    rfl
  cases h
end
theorem a6M {W ps} (h : DataW.LaidVars Tryz.prog W [("hermitage/mmu.kinds", (.agg [.agg [.lit (.int .i64 0), .lit (.int .i64 4)], .agg [.lit (.int .i64 1), .lit (.int .i64 1)], .agg [.lit (.int .i64 2), .lit (.int .i64 2)]]))] ps) : ∀ A, bE (aQ W A) 1 0 jc := by
 obtain ⟨m, n, g, e, p, q, b, c, a, j, _, _⟩ := h
 have f : Tryz.prog.globalNamed "hermitage/mmu.kinds" = some 1 := by kernel_rfl
 obtain rfl := Qbl (f.symm.trans b)
 have d : (Tryz.prog.globals[1]?).map (·.type) = some 528 := by kernel_rfl
 obtain rfl := Qbl (d.symm.trans c)
 have k : g.toList = jc := a6L a7S a7M jj jj rfl rfl (by kernel_rfl) (by kernel_rfl) (by kernel_rfl) (by kernel_rfl) j
 intro A i v l
 refine xd ?_
 have := World.var?_cell f a i
 rw [Qac, this, ← Array.getElem?_toList, k]; exact l
section
variable {P : Program} {w : World} {enc : TypeId × Value → Unit} {base : Nat} {sp : Nat → Bool} {held : Bool}
theorem a6N {a n t e cs} {b : List Nat} {p} (o : P.underlying t = some (.array n e)) (r : P.underlying e = some (.int .i64)) (s : P.cellsOf e = 1) (u : P.cellsOf t = n)
    (h : DataW.trod enc P w base sp held a t cs = some (.agg (b.map fun z => .lit (.int .i64 (z : Nat))), p)) : cs = b.map fun z => .int .i64 z := by
 cases a with
 | zero => simp [DataW.trod] at h
 | succ a =>
  simp only [DataW.trod, o] at h
  split at h
  rename_i v
  rw [u] at v
  obtain ⟨j, k, E⟩ := Option.map_eq_some_iff.1 h
  have c : j.map (·.1) = b.map fun z => (.lit (.int .i64 ((z : Nat) : Int)) : DataW Unit) := by
   grind
  have f := Go.Lib.mapM_length k
  rw [QcM] at f
  have x : b.length = n := by
   have := Qah List.length c
   simp at this; omega
  apply QaP (by simp; omega)
  intro i y F
  have A : i < n := by omega
  obtain ⟨⟨d, q⟩, G, B⟩ := QcU k i i (by simp [A])
  obtain ⟨m, l, C, _⟩ := DataW.trod_int r B
  have g : (j.map (·.1))[i]? = some d := by grind
  rw [c, QcN, QaV (show i < b.length by omega)] at g
  have D : d = .lit (.int .i64 m) := Qah Prod.fst C
  rw [D] at g
  simp at g
  rw [s, Qaz, Qbf y] at l
  rw [(List.cons.inj l).1, List.getElem_map, g]
  cases h
end
theorem a6O {W ps r} (h : DataW.LaidVars Tryz.prog W (("hermitage/isa.has", (.agg (xF.map fun z => .lit (.int .i64 (z : Nat))))) :: r) ps) : (∀ A, bE (aQ W A) 0 0 kX) ∧ ∃ q, DataW.LaidVars Tryz.prog W r q := by
 obtain ⟨n, o, g, e, p, q, b, c, a, j, k, _⟩ := h
 refine ⟨?_, q, k⟩
 have f : Tryz.prog.globalNamed "hermitage/isa.has" = some 0 := by kernel_rfl
 obtain rfl := Qbl (f.symm.trans b)
 have d : (Tryz.prog.globals[0]?).map (·.type) = some 456 := by kernel_rfl
 obtain rfl := Qbl (d.symm.trans c)
 have l : g.toList = kX := a6N a7J jj (by kernel_rfl) (by kernel_rfl) j
 intro A i v m
 refine xd ?_
 have := World.var?_cell f a i
 rw [Qac, this, ← Array.getElem?_toList, l]; exact m
theorem a6P {W} (h : laidMet Tryz.prog [("hermitage/isa.has", (.agg (xF.map fun z => .lit (.int .i64 (z : Nat))))), ("hermitage/mmu.kinds", (.agg [.agg [.lit (.int .i64 0), .lit (.int .i64 4)], .agg [.lit (.int .i64 1), .lit (.int .i64 1)], .agg [.lit (.int .i64 2), .lit (.int .i64 2)]]))] W) :
    (∀ A, bE (aQ W A) 0 0 kX) ∧ ∀ A, bE (aQ W A) 1 0 jc := by
 obtain ⟨c, h, _⟩ := h
 obtain ⟨a, q, b⟩ := a6O h
 exact ⟨a, a6M b⟩
end
end Go.Proofs.YtbhimdcapbflkaaGreatDoor
