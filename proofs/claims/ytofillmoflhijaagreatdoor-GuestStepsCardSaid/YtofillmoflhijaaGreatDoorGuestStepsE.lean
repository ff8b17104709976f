/-
  Part 5 of the proof of GuestSteps: rules, and walks of functions. Conditions: none.
-/
import Derived.Test.YtofillmoflhijaaGreatDoorGuestStepsD
namespace Go.Proofs.YtofillmoflhijaaGreatDoor
open Go.Proofs.Tryz
set_option linter.unusedSimpArgs false
set_option linter.unusedVariables false
set_option maxRecDepth 20000
set_option linter.defProp false
set_option synthInstance.maxSize 8192
set_option synthInstance.maxHeartbeats 2000000
variable {W0 : World} {R : List HP}
section
open Go.RowKit
def qW : Option It → jY
 | none => (0, 0, 0)
 | some y => y.ent
theorem F0 k T : yr k T = .tuple #[.agg (pi (qW (nM k T))).toArray, .bool (nM k T).isSome] := by
 unfold yr;cases nM k T <;> rfl
def oP : Option Ln → Int
 | none => 0
 | some x => x.e.1
def oF : Option Ln → Int
 | none => 0
 | some x => x.e.2.1
def oO (o : Option Ln) (va : Nat) : Nat := match o with
 | none => 0
 | some _ => va % 64
@[reducible] def F1 (o : Option Ln) (va : Nat) : List Value := [.int .i64 (oP o), .int .i64 (oF o), .int .i64 (oO o va : Nat), .bool o.isSome]
def F2 (L : List Ln) (k : dA) (kind : Int) (user : Bool) (o : Option Ln) : Prop := ∀ x, o = some x → x ∈ L ∧ x.k = k ∧ mi x.e kind user = true
theorem a2b ba bm pv bt bs on root user va (m : va < 4294967296) kind its room now T L (A : Rep its now T) (l : T.length ≤ room) (C : room ≤ 4) (D : now < 1000000) (w : TI L T) : sP W0 306 [pQ ba] (pt ba (jv bm on root user va kind) :: pt bm (cX pv bt bs) :: aZ bt (its, dx room now) :: bQ bs L :: R) (fun v B => ∃ o p E n, v = .tuple #[.agg (F1 o va).toArray, .bool o.isSome] ∧ F2 L (e7 root va) kind user o ∧ Rep p n E ∧ E.length ≤ room ∧ TI L E ∧ n ≤ now + 1 ∧ B = pt ba (jv bm on root user va kind) :: pt bm (cX pv bt bs) :: aZ bt (p, dx room n) :: bQ bs L :: R) := by
 obtain ⟨y, r⟩ : ∃ y, nM (e7 root va) T = y := ⟨_, rfl⟩
 have g := a0S (now := now) (k := e7 root va) (L := T);have h := w.getT now (e7 root va);refine am func306 ntmps306 ?_;refine bi fun N => ?_;refine bc [ba, bm] 16 fun c => ?_;refine aj 0 8 c ?_;refine fP (is := [8, 13]) (by kernel_rfl) rfl ⟨?_, ?_, trivial⟩;refine dL (ao pE (oz ba bm on root user va m kind)) ?_; clear c;rintro _ F ⟨rfl, j⟩;obtain rfl := j.symm;refine ⟨aV, fun c => ?_⟩;refine fP (is := [9, 13]) (by kernel_rfl) rfl ⟨?_, ?_, trivial⟩;refine dL (ao O8 (EL bt its room now T (e7 root va) A l C D)) ?_; clear c;rintro _ F ⟨rfl, a, b, d, j, f⟩;subst j;rw [F0, r];refine ⟨aV, fun c => ?_⟩;refine aj 10 3 c ?_;refine bX 13 (dQ oJ) ?_; clear c;rintro _ _ ⟨G, rfl, rfl⟩;refine ⟨aV, fun c => ?_⟩;refine cj 14 aB fun c => ?_;refine aj 15 1 c ?_;refine aK ?_;refine cv (fun i => ?_) fun i => ?_;refine av aB ?_;refine aS (.cons (aX dS dG rfl rfl) (.cons (aN rfl) .nil)) ?_;exact ⟨_, ⟨none, a, _, b, rfl, fun x q => (by cases q), f, QaN g l, h, d, rfl⟩, IO⟩;refine ah (ao zB (wx ba bm on root user va kind (qW y))) ?_;refine ai (fun s => ?_) fun s => ?_;refine av aB ?_;refine aS (.cons (aX dS dG rfl rfl) (.cons (aN rfl) .nil)) ?_;exact ⟨_, ⟨none, a, _, b, rfl, fun x q => (by cases q), f, QaN g l, h, d, rfl⟩, IO⟩;refine ah (ao zC (wy ba bm on root user va m kind (qW y) true)) ?_;refine av aB ?_;refine aS (.cons (aX dS dG rfl rfl) (.cons (aN rfl) .nil)) ?_;obtain ⟨z, rfl⟩ : ∃ z, y = some z := by cases y <;> simp_all
 have H : mi z.ent kind user = true := by simp_all [qW]
 obtain ⟨t, I⟩ := wm r;obtain ⟨x, J, K, u⟩ := w.sub z t;refine ⟨_, ⟨some x, a, _, b, ?_, fun M q => ?_, f, QaN g l, h, d, rfl⟩, IO⟩;show _ = Value.tuple #[.agg (Bm x.e.1 x.e.2.1 (va % 64) true).toArray, .bool true];rw [u]; rfl;grind;skip;refine dL (dQ oJ) ?_; clear c;rintro _ _ ⟨G, rfl, rfl⟩;refine ⟨aV, fun c => ?_⟩;refine bX 9 (ao O8 (EL bt its room now T (e7 root va) A l C D)) ?_; clear c;rintro _ F ⟨rfl, a, b, d, j, f⟩;subst j;rw [F0, r];refine ⟨aV, fun c => ?_⟩;refine aj 10 3 c ?_;refine cj 14 aB fun c => ?_;refine aj 15 1 c ?_;refine aK ?_;refine cv (fun i => ?_) fun i => ?_;refine av aB ?_;refine aS (.cons (aX dS dG rfl rfl) (.cons (aN rfl) .nil)) ?_;exact ⟨_, ⟨none, a, _, b, rfl, fun x q => (by cases q), f, QaN g l, h, d, rfl⟩, IO⟩;refine ah (ao zB (wx ba bm on root user va kind (qW y))) ?_;refine ai (fun s => ?_) fun s => ?_;refine av aB ?_;refine aS (.cons (aX dS dG rfl rfl) (.cons (aN rfl) .nil)) ?_;exact ⟨_, ⟨none, a, _, b, rfl, fun x q => (by cases q), f, QaN g l, h, d, rfl⟩, IO⟩;refine ah (ao zC (wy ba bm on root user va m kind (qW y) true)) ?_;refine av aB ?_;refine aS (.cons (aX dS dG rfl rfl) (.cons (aN rfl) .nil)) ?_;obtain ⟨z, rfl⟩ : ∃ z, y = some z := by cases y <;> simp_all
 have H : mi z.ent kind user = true := by simp_all [qW]
 obtain ⟨t, I⟩ := wm r;obtain ⟨x, J, K, u⟩ := w.sub z t;refine ⟨_, ⟨some x, a, _, b, ?_, fun M q => ?_, f, QaN g l, h, d, rfl⟩, IO⟩;show _ = Value.tuple #[.agg (Bm x.e.1 x.e.2.1 (va % 64) true).toArray, .bool true];rw [u]; rfl;grind;skip;refine dL (dQ oJ) ?_; clear c;rintro _ _ ⟨G, rfl, rfl⟩;refine ⟨aV, fun c => ?_⟩;refine bG 8 (ao pE (oz ba bm on root user va m kind)) fun c => ?_;refine bX 9 (ao O8 (EL bt its room now T (e7 root va) A l C D)) ?_; clear c;rintro _ F ⟨rfl, a, b, d, j, f⟩;subst j;rw [F0, r];refine ⟨aV, fun c => ?_⟩;refine aj 10 3 c ?_;refine cj 14 aB fun c => ?_;refine aj 15 1 c ?_;refine aK ?_;refine cv (fun i => ?_) fun i => ?_;refine av aB ?_;refine aS (.cons (aX dS dG rfl rfl) (.cons (aN rfl) .nil)) ?_;exact ⟨_, ⟨none, a, _, b, rfl, fun x q => (by cases q), f, QaN g l, h, d, rfl⟩, IO⟩;refine ah (ao zB (wx ba bm on root user va kind (qW y))) ?_;refine ai (fun s => ?_) fun s => ?_;refine av aB ?_;refine aS (.cons (aX dS dG rfl rfl) (.cons (aN rfl) .nil)) ?_;exact ⟨_, ⟨none, a, _, b, rfl, fun x q => (by cases q), f, QaN g l, h, d, rfl⟩, IO⟩;refine ah (ao zC (wy ba bm on root user va m kind (qW y) true)) ?_;refine av aB ?_;refine aS (.cons (aX dS dG rfl rfl) (.cons (aN rfl) .nil)) ?_;obtain ⟨z, rfl⟩ : ∃ z, y = some z := by cases y <;> simp_all
 have H : mi z.ent kind user = true := by simp_all [qW]
 obtain ⟨t, I⟩ := wm r;obtain ⟨x, J, K, u⟩ := w.sub z t;refine ⟨_, ⟨some x, a, _, b, ?_, fun M q => ?_, f, QaN g l, h, d, rfl⟩, IO⟩;show _ = Value.tuple #[.agg (Bm x.e.1 x.e.2.1 (va % 64) true).toArray, .bool true];rw [u]; rfl;grind
theorem a2c ba bm pv bt bs on root user va (c : va < 4294967296) kind its room now T L (t : Rep its now T) (l : T.length ≤ room) (F : room ≤ 4) (G : now < 1000000) (j : TI L T) : sP W0 307 [pQ ba] (pt ba (jv bm on root user va kind) :: pt bm (cX pv bt bs) :: aZ bt (its, dx room now) :: bQ bs L :: R) (fun v B => ∃ o u H n, v = .tuple #[.agg (F1 o va).toArray, .bool o.isSome] ∧ F2 L (e7 root va) kind user o ∧ (o = none → ∀ x ∈ L, x.k = e7 root va → mi x.e kind user = false) ∧ Rep u n H ∧ H.length ≤ room ∧ TI L H ∧ n ≤ now + 1 ∧ B = pt ba (jv bm on root user va kind) :: pt bm (cX pv bt bs) :: aZ bt (u, dx room n) :: bQ bs L :: R) := by
 obtain ⟨y, m⟩ : ∃ y, l5 (e7 root va) L = y := ⟨_, rfl⟩
 have J := j.len;refine am func307 ntmps307 ?_;refine bi fun K => ?_;refine bc [ba, bm] 16 fun a => ?_;refine aj 0 8 a ?_;refine fP (is := [8, 13]) (by kernel_rfl) rfl ⟨?_, ?_, trivial⟩;refine dL (ao pE (oz ba bm on root user va c kind)) ?_; clear a;rintro _ A ⟨rfl, b⟩;obtain rfl := b.symm;refine ⟨aV, fun a => ?_⟩;refine fP (is := [9, 13]) (by kernel_rfl) rfl ⟨?_, ?_, trivial⟩;refine dL (ao vn (tA bs L (by omega) (e7 root va))) ?_; clear a;rintro _ A ⟨rfl, b⟩;subst b;rw [tB, m];refine ⟨aV, fun a => ?_⟩;refine aj 10 3 a ?_;refine bX 13 (dQ oJ) ?_; clear a;rintro _ _ ⟨C, rfl, rfl⟩;refine ⟨aV, fun a => ?_⟩;refine cj 14 aB fun a => ?_;refine aj 15 1 a ?_;refine aK ?_;refine cv (fun d => ?_) fun d => ?_;refine av aB ?_;refine aS (.cons (aX dS dG rfl rfl) (.cons (aN rfl) .nil)) ?_
 exact ⟨_, ⟨none, its, T, now, rfl, fun x q => (by cases q), fun _ x p r => (by
   have f := uO j.keys p;rw [r, m] at f;subst f
   simp_all [mj]), t, l, j, by omega, rfl⟩, IO⟩
 refine ah (ao zB (wx ba bm on root user va kind (mj y))) ?_;refine ai (fun D => ?_) fun D => ?_;refine av aB ?_;refine aS (.cons (aX dS dG rfl rfl) (.cons (aN rfl) .nil)) ?_
 exact ⟨_, ⟨none, its, T, now, rfl, fun x q => (by cases q), fun _ x p r => (by
   have f := uO j.keys p;rw [r, m] at f;subst f
   simp_all [mj]), t, l, j, by omega, rfl⟩, IO⟩
 obtain ⟨x, rfl⟩ : ∃ x, y = some x := by cases y <;> simp_all
 have E : mi x.e kind user = true := by simp_all [mj]
 obtain ⟨w, z⟩ := wu m;have g := j.putT room now w;have h := wn (now := now) (k := x.k) (e := x.e) l;rw [z] at g h;rw [show mj (some x) = x.e from rfl];refine bc [ba, bm, C] 11 fun a => ?_;refine aj 0 8 a ?_;refine aj 9 1 a ?_;refine bG 8 (ao pE (oz ba bm on root user va c kind)) fun a => ?_;refine bX 10 (ao zD (wo bt its room now T (e7 root va) x.e t l F G)) ?_; clear a;rintro _ A ⟨rfl, i, b, s⟩;subst b;refine ⟨aV, fun a => ?_⟩;refine aK ?_;refine ah (ao zC (wy ba bm on root user va c kind x.e true)) ?_;refine av aB ?_;refine aS (.cons (aX dS dG rfl rfl) (.cons (aN rfl) .nil)) ?_;refine ⟨_, ⟨some x, i, _, now + 1, rfl, fun I q => ?_, fun q => (by cases q), s, h, g, by omega, rfl⟩, IO⟩;cases q;exact ⟨w, z, E⟩;skip;refine dL (dQ oJ) ?_; clear a;rintro _ _ ⟨C, rfl, rfl⟩;refine ⟨aV, fun a => ?_⟩;refine bX 9 (ao vn (tA bs L (by omega) (e7 root va))) ?_; clear a;rintro _ A ⟨rfl, b⟩;subst b;rw [tB, m];refine ⟨aV, fun a => ?_⟩;refine aj 10 3 a ?_;refine cj 14 aB fun a => ?_;refine aj 15 1 a ?_;refine aK ?_;refine cv (fun d => ?_) fun d => ?_;refine av aB ?_;refine aS (.cons (aX dS dG rfl rfl) (.cons (aN rfl) .nil)) ?_
 exact ⟨_, ⟨none, its, T, now, rfl, fun x q => (by cases q), fun _ x p r => (by
   have f := uO j.keys p;rw [r, m] at f;subst f
   simp_all [mj]), t, l, j, by omega, rfl⟩, IO⟩
 refine ah (ao zB (wx ba bm on root user va kind (mj y))) ?_;refine ai (fun D => ?_) fun D => ?_;refine av aB ?_;refine aS (.cons (aX dS dG rfl rfl) (.cons (aN rfl) .nil)) ?_
 exact ⟨_, ⟨none, its, T, now, rfl, fun x q => (by cases q), fun _ x p r => (by
   have f := uO j.keys p;rw [r, m] at f;subst f
   simp_all [mj]), t, l, j, by omega, rfl⟩, IO⟩
 obtain ⟨x, rfl⟩ : ∃ x, y = some x := by cases y <;> simp_all
 have E : mi x.e kind user = true := by simp_all [mj]
 obtain ⟨w, z⟩ := wu m;have g := j.putT room now w;have h := wn (now := now) (k := x.k) (e := x.e) l;rw [z] at g h;rw [show mj (some x) = x.e from rfl];refine bc [ba, bm, C] 11 fun a => ?_;refine aj 0 8 a ?_;refine aj 9 1 a ?_;refine bG 8 (ao pE (oz ba bm on root user va c kind)) fun a => ?_;refine bX 10 (ao zD (wo bt its room now T (e7 root va) x.e t l F G)) ?_; clear a;rintro _ A ⟨rfl, i, b, s⟩;subst b;refine ⟨aV, fun a => ?_⟩;refine aK ?_;refine ah (ao zC (wy ba bm on root user va c kind x.e true)) ?_;refine av aB ?_;refine aS (.cons (aX dS dG rfl rfl) (.cons (aN rfl) .nil)) ?_;refine ⟨_, ⟨some x, i, _, now + 1, rfl, fun I q => ?_, fun q => (by cases q), s, h, g, by omega, rfl⟩, IO⟩;cases q;exact ⟨w, z, E⟩;skip;refine dL (dQ oJ) ?_; clear a;rintro _ _ ⟨C, rfl, rfl⟩;refine ⟨aV, fun a => ?_⟩;refine bG 8 (ao pE (oz ba bm on root user va c kind)) fun a => ?_;refine bX 9 (ao vn (tA bs L (by omega) (e7 root va))) ?_; clear a;rintro _ A ⟨rfl, b⟩;subst b;rw [tB, m];refine ⟨aV, fun a => ?_⟩;refine aj 10 3 a ?_;refine cj 14 aB fun a => ?_;refine aj 15 1 a ?_;refine aK ?_;refine cv (fun d => ?_) fun d => ?_;refine av aB ?_;refine aS (.cons (aX dS dG rfl rfl) (.cons (aN rfl) .nil)) ?_
 exact ⟨_, ⟨none, its, T, now, rfl, fun x q => (by cases q), fun _ x p r => (by
   have f := uO j.keys p;rw [r, m] at f;subst f
   simp_all [mj]), t, l, j, by omega, rfl⟩, IO⟩
 refine ah (ao zB (wx ba bm on root user va kind (mj y))) ?_;refine ai (fun D => ?_) fun D => ?_;refine av aB ?_;refine aS (.cons (aX dS dG rfl rfl) (.cons (aN rfl) .nil)) ?_
 exact ⟨_, ⟨none, its, T, now, rfl, fun x q => (by cases q), fun _ x p r => (by
   have f := uO j.keys p;rw [r, m] at f;subst f
   simp_all [mj]), t, l, j, by omega, rfl⟩, IO⟩
 obtain ⟨x, rfl⟩ : ∃ x, y = some x := by cases y <;> simp_all
 have E : mi x.e kind user = true := by simp_all [mj]
 obtain ⟨w, z⟩ := wu m;have g := j.putT room now w;have h := wn (now := now) (k := x.k) (e := x.e) l;rw [z] at g h;rw [show mj (some x) = x.e from rfl];refine bc [ba, bm, C] 11 fun a => ?_;refine aj 0 8 a ?_;refine aj 9 1 a ?_;refine bG 8 (ao pE (oz ba bm on root user va c kind)) fun a => ?_;refine bX 10 (ao zD (wo bt its room now T (e7 root va) x.e t l F G)) ?_; clear a;rintro _ A ⟨rfl, i, b, s⟩;subst b;refine ⟨aV, fun a => ?_⟩;refine aK ?_;refine ah (ao zC (wy ba bm on root user va c kind x.e true)) ?_;refine av aB ?_;refine aS (.cons (aX dS dG rfl rfl) (.cons (aN rfl) .nil)) ?_;refine ⟨_, ⟨some x, i, _, now + 1, rfl, fun I q => ?_, fun q => (by cases q), s, h, g, by omega, rfl⟩, IO⟩;cases q;exact ⟨w, z, E⟩
section
variable {P : Program} {S : World → Prop} {N : FSz} {e : b0} {t : TypeId} {x y : Operand}
theorem L8 {E b sz j : Nat} {k i cs} {us : List Value} (d : P.underlying t = some (.array b E)) (f : ∀ w, (isAgg E).run P w = .ok true w) (g : ∀ w, (sizeOf E).run P w = .ok sz w) (h : ev e x = some (.agg cs)) (l : ev e y = some (.int k i))
    (m : i = j) (p : j < b) (n : cs.extract (j * sz) (j * sz + sz) = us.toArray) : bR P S N e (.index t x y) (.agg us.toArray) := fun a w _ _ _ _ _ c _ => by
 subst m;have o : (0 : Int) ≤ (j : Int) ∧ (j : Int) < (b : Int) := by omega
 simp only [execOp, Instr.index, Sem.run_bind, c.eval h, c.eval l, asIntOf, Sem.run_pure, Result.andThen_ok, fq d, Qad o, Qaf, g, part, f, n, QbJ]
end
def jj : List Value := [.int .i64 0, .int .i64 4, .int .i64 1, .int .i64 1, .int .i64 2, .int .i64 2]
def qX (i : Nat) : Int × Int := if i = 0 then (0, 4) else if i = 1 then (1, 1) else (2, 2)
def iN (pg : List Pl) (r p : Int) : Nat → Int
 | 0 => eu .i64 r 8
 | i + 1 => if eu .i64 r (qX i).2 ≠ 0 ∧ e6 pg p (qX i).1 = 0 then lH .i64 (iN pg r p i) (qX i).2 else iN pg r p i
theorem L9 (l : ∀ A, bF (aT W0 A) 1 0 jj) bm pv bt bs ps pm d on r p pg (m : Pgs pg) : sQ W0 387 [pQ bm, .agg #[.bool on, iQ r, iQ p]] (pt bm (cX pv bt bs) :: pt pv (cB ps pm d) :: pt pm (bN pg) :: R) (iQ (iN pg r p 3)) (pt bm (cX pv bt bs) :: pt pv (cB ps pm d) :: pt pm (bN pg) :: R) := by
 refine am func387 ntmps387 ?_;refine bA fun f => ?_;refine aa (eT rfl rfl rfl) ?_;refine aa (dt (l _)) ?_;refine d7 (fun i : Nat => i ≤ 3) (fun i => [(0, pQ bm), (3, pQ f), (5, iQ (iN pg r p i)), (11, .agg jj.toArray), (12, iQ i)]) (fun i => pt f (ag [.bool on, iQ r, iQ p] 400) :: pt bm (cX pv bt bs) :: pt pv (cB ps pm d) :: pt pm (bN pg) :: R) (fun i => 3 - i) 0 ?_ ?_;omega;intro i u;refine aw ?_;refine aD rfl (fun n => ?_) fun n => ?_;refine au 2 ?_;refine dw (fun _ : Unit => True) (fun _ => [(0, pQ bm), (3, pQ f), (5, iQ (iN pg r p (i + 1))), (11, .agg jj.toArray), (12, iQ i)]) (fun _ => pt f (ag [.bool on, iQ r, iQ p] 400) :: pt bm (cX pv bt bs) :: pt pv (cB ps pm d) :: pt pm (bN pg) :: R) ?_ ?_;refine au 2 ?_;have h : i < 3 := by omega
 have e : jj.toArray.extract (i * 2) (i * 2 + 2) = ([iQ (qX i).1, iQ (qX i).2] : List Value).toArray := by
  have : i = 0 ∨ i = 1 ∨ i = 2 := by omega
  rcases this with rfl | rfl | rfl <;> rfl
 have a : iN pg r p (i + 1) = if eu .i64 r (qX i).2 ≠ 0 ∧ e6 pg p (qX i).1 = 0 then lH .i64 (iN pg r p i) (qX i).2 else iN pg r p i := rfl;obtain ⟨⟨k, c⟩, j⟩ : ∃ q, qX i = q := ⟨_, rfl⟩
 rw [j] at e a;dsimp only at e a;refine aw ?_;refine aa (L8 a7X isAgg493 sizeOf493 rfl rfl rfl h e) ?_;refine bi fun o => ?_;refine av aB ?_;refine bc [f, o, bm] 19 fun b => ?_;refine aj 0 4 b ?_;refine az 4 b (eT rfl rfl rfl) ?_;refine aj 5 2 b ?_;refine ja (t := 21) rfl ?_ ?_;intro g;refine aj 7 4 b ?_;refine aj 12 4 b ?_;refine bG 11 (ao tU (rK pv ps pm d)) fun b => ?_;refine bG 16 (ao call206 (Ik pm pg m p k)) fun b => ?_;refine aj 17 2 b ?_;refine aK ?_;refine ai (fun s => ?_) fun s => ?_;refine aa (mz rfl rfl rfl) ?_;refine dD () ?_ ?_ ?_;trivial
 · rw [a, Qad (by omega)]
   repeat (first | exact bC | refine bq rfl ?_)
 exact IO;refine dD () ?_ ?_ ?_;trivial
 · rw [a, Qab (by omega)]
   repeat (first | exact bC | refine bq rfl ?_)
 exact IO;intro g;refine aj 7 12 b ?_;refine aK ?_;refine dD () ?_ ?_ ?_;trivial
 · rw [a, Qab (by omega)]
   repeat (first | exact bC | refine bq rfl ?_)
 exact IO;intro _ _;refine aw ?_;refine aa co ?_;exact bM (i + 1) (by omega);refine aw ?_;refine ae ?_;obtain rfl : i = 3 := by omega
 exact ap
section
variable {P : Program} {S : World → Prop} {N : FSz} {e : b0} {t : TypeId} {l : List Value} {v : Value}
theorem La {E n k : Nat} {ps rs} (o : P.underlying t = some (.array n E)) (p : ∀ w, (sizeOf E).run P w = .ok k w) (q : ∀ w, (zeroValue t).run P w = .ok (.agg l.toArray) w)
    (m : ud k e 0 ps.toList rs) (r : l.length = rs.length * k) : bR P S N e (.build t ps) (.agg rs.flatten.toArray) := fun a w _ _ _ _ _ s _ => by
 have g := D5 (k := k) (fun x v h => s.eval h) ps.toList rs [] l 0 (by simp) m r;simp only [Qax] at g
 have u : Instr.build t (ps.map fun (i, x) => (i, a.eval x)) = (do
     let zero := (← zeroValue t).cells
     match ← underlying t with
     | .struct c =>
       let d ← c.mapM sI
       let some b := Instr.fill (d[·]?) zero (ps.map fun (i, x) => (i, a.eval x)).toList | stuck "build: no such field, or a part of the wrong size"
       pure (.agg b)
     | .array _ j =>
       let f ← sizeOf j
       let some b := Instr.fill (fun i => some (i * f, f)) zero (ps.map fun (i, x) => (i, a.eval x)).toList | stuck "build: a part of the wrong size"
       pure (.agg b)
     | _ => stuck "build: struct or array type expected") := rfl
 simp only [execOp, u, Sem.run_bind, q, fq o, p, Result.andThen_ok, Value.cells, Sem.run_pure, Qci];rw [g]; rfl
end
theorem yB n : (((n : Nat) : Int) != 0) = (n != 0) := by
 grind
theorem F3 b rl pc x i (f : rl.length = 16) : sQ W0 141 [pQ b, iQ i, wV x] (pt b (dR rl pc) :: R) (iQ (if hJ i then 0 else 1)) (pt b (dR (if hJ i then je rl i.toNat x else rl) pc) :: R) := by
 by_cases a : hJ i = true;have h : 0 ≤ i ∧ i < 16 := Qas a;obtain ⟨n, rfl⟩ : ∃ n : Nat, i = (n : Int) := ⟨i.toNat, by omega⟩
 rw [Qad a, Qad a, Qaf];by_cases j : n = 0;subst j;rw [je, Qad rfl];have c : ∀ R, bH Tryz.prog W0 204 [pQ b, iQ ((0 : Nat) : Int), wV x] (pt b (dR rl pc) :: R) (fun v B => v = .tuple #[] ∧ B = pt b (dR rl pc) :: R) := fun R => by
  refine am func204 ntmps204 ?_;refine ai (fun g => ?_) fun g => ?_;exact absurd rfl g;refine bK (.inr rfl) .nil ?_;exact ap
 refine jq 12 NU ntmps141 ?_;refine aD rfl (fun d => ?_) fun d => ?_;cases d;refine aw ?_;refine ew 10 (ao GC (AS b rl pc f ((0 : Nat) : Int))) ?_;refine ai (fun e => ?_) fun e => ?_;refine ah (ao call204 (c _)) ?_;refine ae ?_;rw [a];exact ap;exact absurd (by rw [a]; rfl) e;grind [je, Ey];rw [Qab a, Qab a];refine jq 12 NU ntmps141 ?_;refine aD rfl (fun d => ?_) fun d => ?_;cases d;refine aw ?_;refine ew 10 (ao GC (AS b rl pc f i)) ?_;refine ai (fun e => ?_) fun e => ?_;exact absurd e (by rw [Qab a]; decide);refine ae ?_;rw [Qab a];exact ap
abbrev en (cs : List Nat) (id : Nat) : Obj := ag (cs.map wV ++ [.int .i64 id, .bool true]) 219
section
variable {cs : List Nat} {id : Nat}
theorem yC (h : CsOk cs) : (cs.map wV ++ [Value.int .i64 id, .bool true]).length = 9 := by simp [h.len]
theorem uU (h : CsOk cs) {n} (a : n < 7) : (cs.map wV ++ [Value.int .i64 id, .bool true])[n * 1]? = some (wV (dm cs n)) := by
 have : n < cs.length := by rw [h.len]; exact a
 rw [QaA, QaB (by grind)];simp [dm, List.getD, this]
theorem a2d (h : CsOk cs) : (cs.map wV ++ [Value.int .i64 id, .bool true])[8]? = some (.bool true) := by
 rw [Qbn (by rw [Qav, h.len]; decide), Qav, h.len]; rfl
theorem a2e (h : CsOk cs) : (cs.map wV ++ [Value.int .i64 id, .bool true])[7]? = some (iQ id) := by
 rw [Qbn (by rw [Qav, h.len]; decide), Qav, h.len]; rfl
theorem yD (h : cs.length = 7) {n v} (a : n < 7) : (cs.map wV ++ [Value.int .i64 id, .bool true]).set (n * 1) (wV v) = (cs.set n v).map wV ++ [iQ id, .bool true] := by
 simp_all
theorem a2f (h : CsOk cs) : ((cs.map wV ++ [Value.int .i64 id, .bool true]).drop 0).take 7 = cs.map wV := by
 rw [List.drop_zero, List.take_left' (by rw [Qav, h.len])]
theorem wz b (h : CsOk cs) : sQ W0 118 [pV b] (pt b (en cs id) :: R) (.bool false) (pt b (en cs id) :: R) := by
 refine am func118 ntmps118 ?_;refine dj rfl rfl rfl (fun a => ?_) fun a => ?_;cases a;refine aw ?_;refine aa (aF (aJ (a2d h))) ?_;exact ae ap
theorem Bn b (h : CsOk cs) k (hk : k < 4294967296) : sQ W0 119 [pV b, wV k] (pt b (en cs id) :: R) (.bool (kC cs k)) (pt b (en cs id) :: R) := by
 refine am func119 ntmps119 ?_;refine aa (fN iP aU rfl rfl (i := 5) rfl (by decide) (by first | exact Qac _ | rfl)) ?_;refine aa (aF (aJ (uU h (n := 5) (by decide)))) ?_;refine aa (eT rfl rfl (lj (h.at_ 5) hk)) ?_;refine ae ?_;exact ⟨_, ⟨Qak Value.bool (yB _), rfl⟩, IO⟩
theorem Lb b (h : CsOk cs) : sQ W0 351 [pV b] (pt b (en cs id) :: R) (iQ (if e8 cs then 0 else 4)) (pt b (en cs id) :: R) := by
 refine am func351 ntmps351 ?_;refine ah (ao zE (wz b h)) ?_;refine ah (ao GI (Bn b h 4 (by decide))) ?_;refine ai (fun a => ?_) fun a => ?_;refine ae ?_;rw [e8, Qab (by simpa using a)];exact ap;refine ae ?_;rw [e8, Qad (by simpa using a)];exact ap
theorem Lc b (h : CsOk cs) (c : id < 4) (n : Nat) (j : n < 9) clock (k : 0 ≤ clock) : sQ W0 313 [pV b, iQ n, iQ clock] (pt b (en cs id) :: R) (.tuple #[wV (if e8 cs then oY cs id clock.toNat n else 0), iQ (if e8 cs then 0 else 4)]) (pt b (en cs id) :: R) := by
 obtain ⟨q, rfl⟩ : ∃ q : Nat, clock = (q : Int) := ⟨clock.toNat, by omega⟩
 rw [Qaf];refine am func313 ntmps313 ?_;refine ah (ao call351 (Lb b h)) ?_;refine ai (fun d => ?_) fun d => ?_;refine aA ?_;have a : e8 cs = false := by
  grind
 rw [a];exact ap;have a : e8 cs = true := by
  grind
 rw [a];refine aD rfl (fun e => ?_) fun e => ?_;omega;refine aw ?_;refine aD rfl (fun f => ?_) fun f => ?_;omega;refine aw ?_;refine ai (fun g => ?_) fun g => ?_;refine aa (bD (d8 (q : Int))) ?_;refine aA ?_;obtain rfl : n = 7 := by omega
 exact ap;refine ai (fun i => ?_) fun i => ?_;refine aa (aF (aJ (a2e h))) ?_;refine aa (bD (cZ (by omega))) ?_;refine aA ?_;obtain rfl : n = 8 := by omega
 exact ap;refine aa (eL (by omega)) ?_;refine aa (aF (aJ (uU h (n := n) (by omega)))) ?_;refine aA ?_;rw [Qad rfl, oY, Qab (by omega), Qab (by omega)];exact ap
theorem a2g b (h : CsOk cs) (n v : Nat) (m : n < 9) (i : v < 4294967296) (hk : e8 cs = true) : sP W0 396 [pV b, iQ n, wV v] (pt b (en cs id) :: R) (fun r B => r = iQ (if n ≤ 6 then 0 else 1) ∧ B = pt b (en (if n ≤ 6 then cs.set n (kD n v) else cs) id) :: R) := by
 refine am func396 ntmps396 ?_;refine ah (ao call351 (Lb b h)) ?_;rw [hk, Qad rfl];refine aD rfl (fun j => ?_) fun j => ?_;exact absurd rfl j;refine au 2 ?_;refine dw (fun _ : Unit => n ≤ 6) (fun _ => [(0, pV b), (1, iQ n), (2, wV (kD n v))]) (fun _ => pt b (en cs id) :: R) ?_ ?_;refine au 12 ?_;refine ai (fun k => ?_) fun k => ?_;refine aa (eT rfl rfl (lj i (by decide))) ?_;refine dD () ?_ ?_ ?_;omega
 · rw [kD, Qad (by omega)]
   repeat (first | exact bC | refine bq rfl ?_)
 exact IO;refine ai (fun l => ?_) fun l => ?_;refine aa (eT rfl rfl (lj i (by decide))) ?_;refine dD () ?_ ?_ ?_;omega
 · rw [kD, Qab (by omega), Qad (by omega)]
   repeat (first | exact bC | refine bq rfl ?_)
 exact IO;refine ai (fun c => ?_) fun c => ?_;refine dD () ?_ ?_ ?_;omega
 · rw [kD, Qab (by omega), Qab (by omega)]
   repeat (first | exact bC | refine bq rfl ?_)
 exact IO;refine ai (fun d => ?_) fun d => ?_;refine dD () ?_ ?_ ?_;omega
 · rw [kD, Qab (by omega), Qab (by omega)]
   repeat (first | exact bC | refine bq rfl ?_)
 exact IO;refine ai (fun e => ?_) fun e => ?_;refine dD () ?_ ?_ ?_;omega
 · rw [kD, Qab (by omega), Qab (by omega)]
   repeat (first | exact bC | refine bq rfl ?_)
 exact IO;refine ai (fun f => ?_) fun f => ?_;refine dD () ?_ ?_ ?_;omega
 · rw [kD, Qab (by omega), Qab (by omega)]
   repeat (first | exact bC | refine bq rfl ?_)
 exact IO;refine ai (fun g => ?_) fun g => ?_;refine dD () ?_ ?_ ?_;omega
 · rw [kD, Qab (by omega), Qab (by omega)]
   repeat (first | exact bC | refine bq rfl ?_)
 exact IO;refine ae ?_;rw [Qab (by omega), Qab (by omega)];exact ap;intro _ a;rw [Qad a, Qad a];refine aw ?_;refine aa (eL (by omega)) ?_;refine av (du (by rw [yC h]; omega) (yD h.len (by omega))) ?_;exact ae ap
theorem Ld b (h : CsOk cs) : sQ W0 109 [pV b] (pt b (en cs id) :: R) (.agg (cs.map wV).toArray) (pt b (en cs id) :: R) := by
 refine am func109 ntmps109 ?_;refine bi fun a => ?_;refine ah (ao zE (wz b h)) ?_;refine aa (gK Cy rq rfl (cJ (b := b) (a2f h) (by rw [Qav, h.len])) (by rw [Qav, h.len])) ?_;refine av (fM rq rfl rfl (by rw [Qav, h.len]) (AR cs) rfl) ?_;exact aS (.cons (aX Cy rq rfl (by rw [Qav, h.len])) .nil) ap
@[reducible] def qY (cs : List Nat) : List Value := [.bool (iu cs), .int .i64 (gY cs), .bool (!e8 cs)]
theorem yE b (h : CsOk cs) : sQ W0 49 [pV b] (pt b (en cs id) :: R) (.agg (qY cs).toArray) (pt b (en cs id) :: R) := by
 have d := h.at_ 0;have e : dm cs 0 / 256 < 4294967296 := by omega
 obtain ⟨c, a⟩ : ∃ r, dm cs 0 / 256 &&& 31 = r := ⟨_, rfl⟩
 have f : c < 4294967296 := by grind [QaH, Qbv]
 refine am func49 ntmps49 ?_;refine bi fun g => ?_;refine ah (ao zE (wz b h)) ?_;refine aa (fN iP aU rfl rfl (i := 0) rfl (by decide) (by first | exact Qac _ | rfl)) ?_;refine aa (aF (aJ (uU h (n := 0) (by decide)))) ?_;refine aa (eT rfl rfl (lj d (by decide) (b := 1))) ?_;refine aa (j8 rfl rfl (by decide) (jS (k := .u32) (s := 8) (by decide))) ?_;refine aa (eT rfl rfl (show _ = ((c : Nat) : Int) by rw [← a]; exact lj e (by decide) (b := 31))) ?_;refine aa (bD (bS (by omega))) ?_;refine ah (ao GI (Bn b h 4 (by decide))) ?_;refine av aB ?_;refine aS (.cons (aX C7 wP rfl rfl) .nil) ?_;refine aI ?_;rw [qY, iu, gY, a, e8, ← yB];rfl
theorem Le b (h : CsOk cs) : sQ W0 231 [pV b] (pt b (en cs id) :: R) (.bool (dm cs 1 != 0)) (pt b (en cs id) :: R) := by
 refine am func231 ntmps231 ?_;refine ah (ao zE (wz b h)) ?_;refine ci (fun a => ?_) fun a => ?_;refine aa (fN iP aU rfl rfl (i := 1) rfl (by decide) (by first | exact Qac _ | rfl)) ?_;refine ac rfl (cg lY rfl (aJ (uU h (n := 1) (by decide)))) ?_;refine cz rfl rfl (ac rfl (mB rfl rfl) (ac rfl (jO rfl rfl) (ac rfl (bj rfl) (aP (aH (dv (bK (.inl rfl) (.cons (aN rfl) .nil) ?_)))))));exact ⟨_, ⟨Qak Value.bool (yB _), rfl⟩, IO⟩;exact absurd (by decide) a
theorem a2h b (h : CsOk cs) : sQ W0 160 [pV b] (pt b (en cs id) :: R) (.bool (oo cs)) (pt b (en cs id) :: R) := by
 obtain ⟨z, c⟩ : ∃ z, (dm cs 1 != 0) = z := ⟨_, rfl⟩
 refine am func160 ntmps160 ?_;refine ah (ao call231 (Le b h)) ?_;rw [c];refine ci (fun a => ?_) fun a => ?_;rw [show oo cs = kC cs 1 by rw [oo, c, a, Qbe]];refine ah (ao GI (Bn b h 1 (by decide))) ?_;exact ae ap;rw [show oo cs = false by rw [oo, c, show z = false by simpa using a, QcR]];exact ae ap
def F4 (f0 t0 f1 t1 : Nat) : List Value := [wV f0, wV t0, wV f1, wV t1]
theorem a2i b b3 b6 s f t (h : CsOk cs) (c : f < 4294967296) (d : s < 4294967296) (e : t < 4294967296) : sQ W0 304 [wV f, wV t, pV b3, pV b6] (pt b3 (ag [pV b] 135) :: pt b6 (ag [wV s] 46) :: pt b (en cs id) :: R) (.tuple #[]) (pt b3 (ag [pV b] 135) :: pt b6 (ag [wV (qG cs s f t)] 46) :: pt b (en cs id) :: R) := by
 refine am func304 ntmps304 ?_;refine ah (ao GI (Bn b h f c)) ?_;refine ai (fun a => ?_) fun a => ?_;rw [qG, Qad a];refine aa (show bR _ _ _ _ _ (wV (s ||| t)) from mz rfl rfl (mJ d e)) ?_;refine av eg ?_;refine bK (.inr rfl) .nil ?_;exact ap;rw [qG, Qab a];refine bK (.inr rfl) .nil ?_;exact ap
def wA (cs : List Nat) (s f0 t0 f1 t1 : Nat) : Nat → Nat
 | 0 => s
 | 1 => qG cs s f0 t0
 | _ => oV cs s f0 t0 f1 t1
theorem Lf W0 R b s f0 t0 f1 t1 (h : CsOk cs) (f : s < 4294967296) (p : f0 < 4294967296) (g : t0 < 4294967296) (q : f1 < 4294967296) (o : t1 < 4294967296) : sQ W0 233 [pV b, wV s, .agg (F4 f0 t0 f1 t1).toArray] (pt b (en cs id) :: R) (.tuple #[]) (pt b (en (cs.set 5 (oV cs s f0 t0 f1 t1)) id) :: R) := by
 have j : ∀ k, wA cs s f0 t0 f1 t1 k < 4294967296 := fun k => by
  match k with
  | 0 => exact f
  | 1 => exact DO f g
  | k + 2 => exact DT f g o
 refine am func233 ntmps233 ?_;refine dK (jQ rfl rfl) fun a => ?_;refine bA fun v => ?_;refine dK (rB a7Y rfl) fun c => ?_;refine eU (lL aU rfl rfl rfl (Qaa rfl) SetL.eq) ?_;rintro _ _ rfl;refine aP (aH (aQ (aY (ac rfl (xp rfl rfl) ?_))));refine ac rfl (bj rfl) (aP (aH (aQ (aQ (aY (ac rfl (ql isAgg350 sizeOf350 rfl rfl) ?_))))));refine ac rfl (aM rfl) (aP (aH (nq ?_)));refine gU (fun k : Nat => k ≤ 2) (fun k => [(3, pV a), (6, pV c), (7, .func (.func 304) #[] #[pV a, pV c]), (12, .agg (F4 f0 t0 f1 t1).toArray), (13, .int .i64 k)]) (fun k => pt a (ag [pV b] 135) :: pt c (ag [wV (wA cs s f0 t0 f1 t1 k)] 46) :: pt b (en cs id) :: R) (fun k => 2 - k) 0 ?_ ?_ ?_ ?_;omega
 · repeat (first | exact bC | refine bq rfl ?_)
 exact (show Ent _ (pt a (ag [pV b] 135) :: pt c (ag [wV s] 46) :: pt b (en cs id) :: R) from inferInstance);intro k w;refine aw ?_;refine ai (fun r => ?_) fun r => ?_;have e : k < 2 := by omega
 obtain ⟨x, y, t, u, l, d⟩ : ∃ x y, x < 4294967296 ∧ y < 4294967296 ∧ ((F4 f0 t0 f1 t1).toArray.extract (k * 2) (k * 2 + 2) = [wV x, wV y].toArray) ∧ qG cs (wA cs s f0 t0 f1 t1 k) x y = wA cs s f0 t0 f1 t1 (k + 1) := by
  match k, e with
  | 0, _ => exact ⟨f0, t0, p, g, rfl, rfl⟩
  | 1, _ => exact ⟨f1, t1, q, o, rfl, rfl⟩
 refine aa (L8 O9 isAgg349 G7 rfl rfl rfl e l) ?_;refine bi fun z => ?_;refine av aB ?_;refine aa (fN zF aU rfl rfl (i := 0) rfl (by decide) (by first | exact Qac _ | rfl)) ?_;refine aa (fN zF aU rfl rfl (i := 1) rfl (by decide) (by first | exact Qac _ | rfl)) ?_;refine ah (km sV (jp (us := []) (cs := [pV a, pV c]) rfl call304 rfl (a2i b a c (wA cs s f0 t0 f1 t1 k) x y h t (j k) u))) ?_;rw [d];refine aa co ?_;exact bM (k + 1) (by omega);obtain rfl : k = 2 := by omega
 refine bc [a, c] 6 fun m => ?_;refine aj 0 4 m ?_;refine az 4 m (fN iP aU rfl rfl (i := 5) rfl (by decide) (by first | exact Qac _ | rfl)) ?_;refine cj 5 (du (by grind [yC]) (yD (n := 5) h.len (by decide))) fun m => ?_;refine aK ?_;refine bK (.inr rfl) .nil ?_;exact ⟨_, ⟨rfl, rfl⟩, (show Ent _ (pt b (en (cs.set 5 (wA cs s f0 t0 f1 t1 2)) id) :: R) from inferInstance)⟩
theorem Lg b pc cause tval (h : CsOk cs) (c : pc < 4294967296) (d : cause < 4294967296) (e : tval < 4294967296) : sQ W0 162 [pV b, wV pc, wV cause, wV tval] (pt b (en cs id) :: R) (.tuple #[wV (dm cs 1), iQ 0]) (pt b (en (m8 cs pc cause tval) id) :: R) := by
 have f := h.trap c d e;have g := h.enter c d e;have j : dm (m8 cs pc cause tval) 1 = dm cs 1 := by grind [m8, oW, dm]
 refine am func162 ntmps162 ?_;refine ah (ao zE (wz b h)) ?_;refine bc [] 18 fun a => ?_;refine aj 0 8 a ?_;refine az 8 a (fN iP aU rfl rfl (i := 2) rfl (by decide) (by first | exact Qac _ | rfl)) ?_;refine aj 10 2 a ?_;refine aj 14 2 a ?_;refine cj 9 (du (by grind [yC]) (yD (n := 2) h.len (by decide))) fun a => ?_;refine az 12 a (fN iP aU rfl rfl (i := 3) rfl (by decide) (by first | exact Qac _ | rfl)) ?_;refine cj 13 (du (by rw [yC (h.set 2 pc c)]; decide) (yD (n := 3) (h.set 2 pc c).len (by decide))) fun a => ?_;refine az 16 a (fN iP aU rfl rfl (i := 4) rfl (by decide) (by first | exact Qac _ | rfl)) ?_;refine cj 17 (du (by rw [yC ((h.set 2 pc c).set 3 cause d)]; decide) (yD (n := 4) ((h.set 2 pc c).set 3 cause d).len (by decide))) fun a => ?_;refine aK ?_;refine aa (xJ zF aU Ck rfl rfl rfl rfl) ?_;refine aa (xJ zF aU Ck rfl rfl rfl rfl) ?_;refine aa (La (rs := [[wV 1, wV 2], [wV 4, wV 8]]) O9 G7 a7Z (fR rfl rfl (fR rfl rfl iG)) rfl) ?_;refine ah (ao call233 (Lf (cs := oW cs pc cause tval) W0 _ b 4 1 2 4 8 f (by decide) (by decide) (by decide) (by decide) (by decide))) ?_;rw [XC, show (oW cs pc cause tval).set 5 (oV cs 4 1 2 4 8) = m8 cs pc cause tval from rfl];refine aa (fN iP aU rfl rfl (i := 1) rfl (by decide) (by first | exact Qac _ | rfl)) ?_;refine aa (aF (aJ (uU g (n := 1) (by decide)))) ?_;refine aA ?_;rw [j];exact ap
theorem a2j b (h : CsOk cs) : sQ W0 395 [pV b] (pt b (en cs id) :: R) (.tuple #[wV (dm cs 2), iQ 0]) (pt b (en (oX cs) id) :: R) := by
 have a := h.leave;have c : dm (oX cs) 2 = dm cs 2 := by grind [oX, dm]
 have d : dm cs 5 &&& 10 < 4294967296 := QaH Qbv (h.at_ 5);refine am func395 ntmps395 ?_;refine ah (ao zE (wz b h)) ?_;refine aa (fN iP aU rfl rfl (i := 5) rfl (by decide) (by first | exact Qac _ | rfl)) ?_;refine aa (aF (aJ (uU h (n := 5) (by decide)))) ?_;refine aa (eT rfl rfl (lj (h.at_ 5) (by decide) (b := 10))) ?_;refine aa (xJ zF aU Ck rfl rfl rfl rfl) ?_;refine aa (xJ zF aU Ck rfl rfl rfl rfl) ?_;refine aa (La (rs := [[wV 2, wV 1], [wV 8, wV 4]]) O9 G7 a7Z (fR rfl rfl (fR rfl rfl iG)) rfl) ?_;refine ah (ao call233 (Lf W0 _ b (dm cs 5 &&& 10) 2 1 8 4 h d (by decide) (by decide) (by decide) (by decide))) ?_;rw [show cs.set 5 (oV cs (dm cs 5 &&& 10) 2 1 8 4) = oX cs from rfl];refine aa (fN iP aU rfl rfl (i := 2) rfl (by decide) (by first | exact Qac _ | rfl)) ?_;refine aa (aF (aJ (uU a (n := 2) (by decide)))) ?_;refine aA ?_;rw [c];exact ap
end
theorem F5 (a : Nat) : IntKind.wrap .i32 a = iU a := rfl
section
variable (W0 : World) (R : List HP) (a b : Nat)
theorem a2k : sQ W0 417 [.agg #[wV a, wV b]] R (wV (u32 (a + b))) R := by
 refine am func417 ntmps417 ?_;refine bA fun c => ?_;refine aa (cY rfl rfl (d8 _)) ?_;exact ae ap
theorem a2l : sQ W0 418 [.agg #[wV a, wV b]] R (wV (u32 (a - b))) R := by
 refine am func418 ntmps418 ?_;refine bA fun c => ?_;refine aa (jo rfl rfl (d8 _)) ?_;exact ae ap
theorem a2m (c : a < 4294967296) (d : b < 4294967296) : sQ W0 411 [.agg #[wV a, wV b]] R (wV (a &&& b)) R := by
 refine am func411 ntmps411 ?_;refine bA fun e => ?_;refine aa (eT rfl rfl (lj c d)) ?_;exact ae ap
theorem a2n (c : a < 4294967296) (d : b < 4294967296) : sQ W0 412 [.agg #[wV a, wV b]] R (wV (a ||| b)) R := by
 refine am func412 ntmps412 ?_;refine bA fun e => ?_;refine aa (mz rfl rfl (mJ c d)) ?_;exact ae ap
theorem Lh : tY .u32 a b = (u32 (tY .u32 a b)) := by
 grind [tY, d8, dU, vT]
theorem a2o : sQ W0 413 [.agg #[wV a, wV b]] R (wV (u32 (tY .u32 a b))) R := by
 refine am func413 ntmps413 ?_;refine bA fun c => ?_;refine aa (H5 rfl rfl (Lh a b)) ?_;exact ae ap
theorem yF x n : iE .u32 x n = (u32 (iE .u32 x n)) := by
 grind [iE, d8, vT, dU]
theorem a2p : sQ W0 414 [.agg #[wV a, wV b]] R (wV (u32 (iE .u32 a (b % 32 : Nat)))) R := by
 refine am func414 ntmps414 ?_;refine bA fun c => ?_;refine aa (dV rfl rfl (by decide) (io b 32)) ?_;refine aa (lg rfl rfl (by omega) (yF _ _)) ?_;exact ae ap
theorem a2q : sQ W0 415 [.agg #[wV a, wV b]] R (wV (a / 2 ^ (b % 32))) R := by
 have c : b % 32 ≤ (IntKind.bits .u32) := by
  have := Qcb b (show 0 < 32 by decide);show b % 32 ≤ 32;omega
 refine am func415 ntmps415 ?_;refine bA fun d => ?_;refine aa (dV rfl rfl (by decide) (io b 32)) ?_;refine aa (j8 rfl rfl (by omega) (jS (k := .u32) (s := b % 32) c)) ?_;exact ae ap
theorem a2r : sQ W0 416 [.agg #[wV a, wV b]] R (wV (u32 (jP .i32 (iU a) (b % 32 : Nat)))) R := by
 refine am func416 ntmps416 ?_;refine bA fun c => ?_;refine aa (bD (F5 a)) ?_;refine aa (dV rfl rfl (by decide) (io b 32)) ?_;refine aa (j8 rfl rfl (by omega) rfl) ?_;refine aa (bD (d8 _)) ?_;exact ae ap
theorem a2s : sQ W0 419 [.agg #[wV a, wV b]] R (wV (u32 (a * b))) R := by
 refine am func419 ntmps419 ?_;refine bA fun c => ?_;refine aa (qj rfl rfl (d8 _)) ?_;exact ae ap
theorem Lj x : sQ W0 422 [.bool x] R (wV (oU x)) R := by
 refine am func422 ntmps422 ?_;refine ai (fun a => ?_) fun a => ?_;rw [show oU x = 1 by rw [a]; rfl];exact ae ap;rw [show oU x = 0 by rw [show x = false by simpa using a]; rfl];exact ae ap
theorem Lk : sQ W0 393 [.agg #[wV a, wV b]] R (wV (oU (decide (iU a < iU b)))) R := by
 refine am func393 ntmps393 ?_;refine bA fun c => ?_;refine aa (bD (F5 a)) ?_;refine aa (bD (F5 b)) ?_;refine ah (aC call422 (Lj W0 _ (decide (iU a < iU b)))) ?_;exact ae ap
theorem yG : (decide (a < (b : Int))) = decide (a < b) := by
 grind
theorem Ll : sQ W0 394 [.agg #[wV a, wV b]] R (wV (oU (decide (a < b)))) R := by
 rw [← yG];refine am func394 ntmps394 ?_;refine fi (kh rfl) fun d => ?_;refine ac rfl (bj rfl) (aP (aH (aQ (aY ?_))));refine ac rfl (cD rfl tQ rfl aU rfl (by first | exact Qac _ | rfl)) ?_;refine ac rfl (cg lY rfl (aJ rfl)) ?_;refine ac rfl (cD rfl tQ rfl aU rfl (by first | exact Qac _ | rfl)) ?_;refine ac rfl (cg lY rfl (aJ rfl)) ?_;refine ac rfl (nt rfl rfl) (aG rfl (iR call422 rfl (Lj W0 _ (decide ((a : Int) < (b : Int))))) ?_);rintro _ e ⟨rfl, c⟩;obtain rfl := c.symm;refine ac rfl (bj rfl) (aP (aH (dv ?_)));exact ae ap
theorem a2t (d : a < 4294967296) : sQ W0 420 [.agg #[wV a, wV b]] R (wV (if b = 0 then 4294967295 else a / b)) R := by
 have e : a / b < 4294967296 := QaH (QbP _ _) d;refine am func420 ntmps420 ?_;refine fi (kh rfl) fun g => ?_;refine ac rfl (bj rfl) (aP (aH (aQ (aQ (aY ?_)))));refine ac rfl (cD rfl tQ rfl aU rfl (by first | exact Qac _ | rfl)) ?_;refine ac rfl (cg lY rfl (aJ rfl)) ?_;refine ac rfl (i5 rfl rfl) (aP (aH ?_));refine aD rfl (fun f => ?_) fun f => ?_;refine au 7 ?_;refine ae ?_;rw [Qad (by omega)];exact ap;refine aw ?_;have c : b ≠ 0 := by omega
 rw [Qab c];refine aa (lZ rfl rfl (by omega) (by rw [oN]; exact cZ ⟨Int.natCast_nonneg _, Int.ofNat_lt.2 e⟩ : IntKind.wrap .u32 (Int.tdiv (a : Int) (b : Int)) = ((a / b : Nat) : Int))) ?_;exact ae ap
theorem a2u (e : a < 4294967296) : sQ W0 421 [.agg #[wV a, wV b]] R (wV (if b = 0 then a else a % b)) R := by
 refine am func421 ntmps421 ?_;refine fi (kh rfl) fun f => ?_;refine ac rfl (bj rfl) (aP (aH (aQ (aQ (aY ?_)))));refine ac rfl (cD rfl tQ rfl aU rfl (by first | exact Qac _ | rfl)) ?_;refine ac rfl (cg lY rfl (aJ rfl)) ?_;refine ac rfl (i5 rfl rfl) (aP (aH ?_));refine aD rfl (fun d => ?_) fun d => ?_;refine au 9 ?_;refine ae ?_;rw [Qad (by omega)];exact ap;refine aw ?_;have c : b ≠ 0 := by omega
 rw [Qab c];refine aa (dV rfl rfl (by omega) (io a b)) ?_;exact ae ap
def F6 (f : FuncId) (op : Nat) : Prop := (∀ args w, (callFunc f args).run Tryz.prog w = .ok (.enter f args) w) ∧ ∀ R, bH Tryz.prog W0 f ([] ++ [.agg #[wV a, wV b]] ++ []) R (fun v B => v = wV (kB op a b) ∧ B = R)
theorem oA {f op n} (d : ∀ c w, (callFunc f c).run Tryz.prog w = .ok (.enter f c) w) (e : kB op a b = n) (h : ∀ R, bH Tryz.prog W0 f [.agg #[wV a, wV b]] R (fun v B => v = wV n ∧ B = R)) : F6 W0 a b f op := ⟨d, by rw [e]; exact h⟩
theorem a2v (c : Nat) (h : 3 ≤ c ∧ c ≤ 8) (e : a < 4294967296) (g : b < 4294967296) : sP W0 391 [iQ c] R (fun v B => ∃ f, v = .func (.func f) #[] #[] ∧ B = R ∧ F6 W0 a b f c) := by
 refine am func391 ntmps391 ?_;refine ai (fun i => ?_) fun i => ?_;refine ae ?_;obtain rfl : c = 3 := by omega
 exact ⟨_, ⟨_, rfl, rfl, oA W0 a b call411 rfl fun R => a2m W0 R a b e g⟩, IO⟩;refine ai (fun j => ?_) fun j => ?_;refine ae ?_;obtain rfl : c = 4 := by omega
 exact ⟨_, ⟨_, rfl, rfl, oA W0 a b call412 rfl fun R => a2n W0 R a b e g⟩, IO⟩;refine ai (fun k => ?_) fun k => ?_;refine ae ?_;obtain rfl : c = 5 := by omega
 exact ⟨_, ⟨_, rfl, rfl, oA W0 a b call413 rfl fun R => a2o W0 R a b⟩, IO⟩;refine ai (fun l => ?_) fun l => ?_;refine ae ?_;obtain rfl : c = 6 := by omega
 exact ⟨_, ⟨_, rfl, rfl, oA W0 a b call414 rfl fun R => a2p W0 R a b⟩, IO⟩;refine ai (fun d => ?_) fun d => ?_;refine ae ?_;obtain rfl : c = 7 := by omega
 exact ⟨_, ⟨_, rfl, rfl, oA W0 a b call415 rfl fun R => a2q W0 R a b⟩, IO⟩;refine ae ?_;obtain rfl : c = 8 := by omega
 exact ⟨_, ⟨_, rfl, rfl, oA W0 a b call416 rfl fun R => a2r W0 R a b⟩, IO⟩
theorem Lm (c : Nat) (h : 1 ≤ c ∧ c ≤ 13 ∧ (c < 3 ∨ 8 < c)) (g : a < 4294967296) : sP W0 392 [iQ c] R (fun v B => ∃ f, v = .func (.func f) #[] #[] ∧ B = R ∧ F6 W0 a b f c) := by
 refine am func392 ntmps392 ?_;refine ai (fun i => ?_) fun i => ?_;refine ae ?_;obtain rfl : c = 1 := by omega
 exact ⟨_, ⟨_, rfl, rfl, oA W0 a b call417 rfl fun R => a2k W0 R a b⟩, IO⟩;refine ai (fun j => ?_) fun j => ?_;refine ae ?_;obtain rfl : c = 2 := by omega
 exact ⟨_, ⟨_, rfl, rfl, oA W0 a b call418 rfl fun R => a2l W0 R a b⟩, IO⟩;refine ai (fun k => ?_) fun k => ?_;refine ae ?_;obtain rfl : c = 9 := by omega
 exact ⟨_, ⟨_, rfl, rfl, oA W0 a b call393 rfl fun R => Lk W0 R a b⟩, IO⟩;refine ai (fun l => ?_) fun l => ?_;refine ae ?_;obtain rfl : c = 10 := by omega
 exact ⟨_, ⟨_, rfl, rfl, oA W0 a b call394 rfl fun R => Ll W0 R a b⟩, IO⟩;refine ai (fun d => ?_) fun d => ?_;refine ae ?_;obtain rfl : c = 11 := by omega
 exact ⟨_, ⟨_, rfl, rfl, oA W0 a b call419 rfl fun R => a2s W0 R a b⟩, IO⟩;refine ai (fun e => ?_) fun e => ?_;refine ae ?_;obtain rfl : c = 12 := by omega
 exact ⟨_, ⟨_, rfl, rfl, oA W0 a b call420 rfl fun R => a2t W0 R a b g⟩, IO⟩;refine ae ?_;obtain rfl : c = 13 := by omega
 exact ⟨_, ⟨_, rfl, rfl, oA W0 a b call421 rfl fun R => a2u W0 R a b g⟩, IO⟩
theorem Lo (e : Nat) (h : 1 ≤ e ∧ e ≤ 13) (j : a < 4294967296) (k : b < 4294967296) : sQ W0 352 [iQ e, wV a, wV b] R (.tuple #[wV (kB e a b), iQ 0]) R := by
 refine am func352 ntmps352 ?_;refine aD rfl (fun l => ?_) fun l => ?_;omega;refine aw ?_;refine aD rfl (fun m => ?_) fun m => ?_;omega;refine aw ?_;refine ci (fun g => ?_) fun g => ?_;refine ai (fun n => ?_) fun n => ?_;refine aG rfl (aC call391 (a2v W0 _ a b e (by omega) j k)) ?_;rintro _ i ⟨f, rfl, c, d⟩;obtain rfl := c.symm;refine ac rfl (aM rfl) (ac rfl (aM rfl) (ac rfl (fB tQ CC (aL aU (aL aU fA)) (bW rfl aU rfl rfl (Qaa rfl) SetL.eq (bW rfl aU rfl rfl (Qaa rfl) SetL.eq fz))) ?_));refine aG rfl (jp (us := []) (cs := []) rfl d.1 rfl (d.2 _)) ?_;rintro _ i ⟨rfl, c⟩;obtain rfl := c.symm;refine ac rfl (bj rfl) (ac rfl (bj rfl) (aP (aH (dv (my (gQ ?_))))));exact aA ap;refine aG rfl (aC call392 (Lm W0 _ a b e (by omega) j)) ?_;rintro _ i ⟨f, rfl, c, d⟩;obtain rfl := c.symm;refine ac rfl (aM rfl) (ac rfl (aM rfl) (ac rfl (fB tQ CC (aL aU (aL aU fA)) (bW rfl aU rfl rfl (Qaa rfl) SetL.eq (bW rfl aU rfl rfl (Qaa rfl) SetL.eq fz))) ?_));refine aG rfl (jp (us := []) (cs := []) rfl d.1 rfl (d.2 _)) ?_;rintro _ i ⟨rfl, c⟩;obtain rfl := c.symm;refine ac rfl (bj rfl) (ac rfl (bj rfl) (aP (aH (dv ?_))));exact aA ap;refine aG rfl (aC call392 (Lm W0 _ a b e (by omega) j)) ?_;rintro _ i ⟨f, rfl, c, d⟩;obtain rfl := c.symm;refine ac rfl (aM rfl) (ac rfl (aM rfl) (ac rfl (fB tQ CC (aL aU (aL aU fA)) (bW rfl aU rfl rfl (Qaa rfl) SetL.eq (bW rfl aU rfl rfl (Qaa rfl) SetL.eq fz))) ?_));refine aG rfl (jp (us := []) (cs := []) rfl d.1 rfl (d.2 _)) ?_;rintro _ i ⟨rfl, c⟩;obtain rfl := c.symm;refine ac rfl (bj rfl) (ac rfl (bj rfl) (aP (aH (dv ?_))));exact aA ap
theorem Lp p : (((oU p) : Int) == 1) = p := by cases p <;> rfl
theorem F7 : (a == (b : Int)) = decide (a = b) := by
 grind
theorem Lq : (a != (b : Int)) = decide (a ≠ b) := by
 grind
theorem a2w (c : Nat) (h : 28 ≤ c ∧ c ≤ 31) : sQ W0 359 [iQ c, wV a, wV b] R (.tuple #[.bool (uB c a b), iQ 0]) R := by
 refine kS func359 ntmps359 rfl rfl ?_;refine aQ (aY (ac rfl (bj rfl) (ac rfl (bj rfl) (aP (aH (aQ (aY (ac rfl (aM rfl) (ac rfl (aM rfl) (ac rfl (fB tQ CC (aL aU (aL aU fA)) (bW rfl aU rfl rfl (Qaa rfl) SetL.eq (bW rfl aU rfl rfl (Qaa rfl) SetL.eq fz))) ?_))))))))));refine aG rfl (dQ CC) ?_;rintro _ _ ⟨k, rfl, rfl⟩;refine av aB ?_;refine aD rfl (fun e => ?_) fun e => ?_;refine aQ ?_;refine aY (ac rfl (aM rfl) (ac rfl (aM rfl) (ac rfl (i5 rfl rfl) (ac rfl (bj rfl) (ac rfl (bj rfl) (aP (aH (dv (my (gQ (bK (.inl rfl) (.cons (aN rfl) (.cons (aN rfl) .nil)) ?_)))))))))));obtain rfl : c = 28 := by omega
 exact ⟨_, ⟨by rw [F7]; rfl, rfl⟩, IO⟩;refine aw ?_;refine aD rfl (fun f => ?_) fun f => ?_;refine aQ ?_;refine aY (ac rfl (aM rfl) (ac rfl (aM rfl) (ac rfl (mB rfl rfl) (ac rfl (bj rfl) (ac rfl (bj rfl) (aP (aH (dv (my (gQ (bK (.inl rfl) (.cons (aN rfl) (.cons (aN rfl) .nil)) ?_)))))))))));obtain rfl : c = 29 := by omega
 exact ⟨_, ⟨by rw [Lq]; rfl, rfl⟩, IO⟩;refine aw ?_;refine ai (fun g => ?_) fun g => ?_;refine aG rfl (iR call393 rfl (Lk W0 _ a b)) ?_;rintro _ i ⟨rfl, d⟩;obtain rfl := d.symm;refine ac rfl (i5 rfl rfl) (ac rfl (bj rfl) (ac rfl (bj rfl) (aP (aH (dv (my (gQ (bK (.inl rfl) (.cons (aN rfl) (.cons (aN rfl) .nil)) ?_))))))));obtain rfl : c = 30 := by omega
 exact ⟨_, ⟨by rw [Lp]; rfl, rfl⟩, IO⟩;refine aD rfl (fun j => ?_) fun j => ?_;refine au 3 ?_;refine aG rfl (iR call394 rfl (Ll W0 _ a b)) ?_;rintro _ i ⟨rfl, d⟩;obtain rfl := d.symm;refine ac rfl (i5 rfl rfl) (ac rfl (bj rfl) (ac rfl (bj rfl) (aP (aH (dv (my (gQ (bK (.inl rfl) (.cons (aN rfl) (.cons (aN rfl) .nil)) ?_))))))));obtain rfl : c = 31 := by omega
 exact ⟨_, ⟨by rw [Lp]; rfl, rfl⟩, IO⟩;omega
theorem a2x (op : Nat) (h : 14 ≤ op ∧ op ≤ 21) : sQ W0 356 [iQ op] R (.tuple #[iQ (ir op), .bool true]) R := by
 refine am func356 ntmps356 ?_;refine ai (fun c => ?_) fun c => ?_;refine aA ?_;obtain rfl : op = 14 := by omega
 exact ap;refine ai (fun d => ?_) fun d => ?_;refine aA ?_;obtain rfl : op = 21 := by omega
 exact ap;refine ai (fun e => ?_) fun e => ?_;refine aa gW ?_;refine aa (cY rfl rfl (by rw [bS (by omega), ir, Qab (by omega), Qab (by omega)]; omega : IntKind.wrap .i64 (((op : Int) - 15) + 3) = ((ir op : Nat) : Int))) ?_;exact aA ap;refine ai (fun f => ?_) fun f => ?_;refine aa gW ?_;refine aa (cY rfl rfl (by rw [bS (by omega), ir, Qab (by omega), Qab (by omega)]; omega : IntKind.wrap .i64 (((op : Int) - 15) + 3) = ((ir op : Nat) : Int))) ?_;exact aA ap;refine ai (fun g => ?_) fun g => ?_;refine aa gW ?_;refine aa (cY rfl rfl (by rw [bS (by omega), ir, Qab (by omega), Qab (by omega)]; omega : IntKind.wrap .i64 (((op : Int) - 15) + 3) = ((ir op : Nat) : Int))) ?_;exact aA ap;refine ai (fun i => ?_) fun i => ?_;refine aa gW ?_;refine aa (cY rfl rfl (by rw [bS (by omega), ir, Qab (by omega), Qab (by omega)]; omega : IntKind.wrap .i64 (((op : Int) - 15) + 3) = ((ir op : Nat) : Int))) ?_;exact aA ap;refine ai (fun a => ?_) fun a => ?_;refine aa gW ?_;refine aa (cY rfl rfl (by rw [bS (by omega), ir, Qab (by omega), Qab (by omega)]; omega : IntKind.wrap .i64 (((op : Int) - 15) + 3) = ((ir op : Nat) : Int))) ?_;exact aA ap;refine aD rfl (fun b => ?_) fun b => ?_;refine au 3 ?_;refine aa gW ?_;refine aa (cY rfl rfl (by rw [bS (by omega), ir, Qab (by omega), Qab (by omega)]; omega : IntKind.wrap .i64 (((op : Int) - 15) + 3) = ((ir op : Nat) : Int))) ?_;exact aA ap;omega
theorem a2y im : sQ W0 357 [iQ im] R (wV (uC im)) R := by
 refine am func357 ntmps357 ?_;refine aa (bD (d8 im)) ?_;refine aa (lg rfl rfl (by decide) (yF _ _)) ?_;exact ae ap
end
@[reducible] def fW (i : Ins) : List Value := [.int .i64 i.op, .int .i64 i.d, .int .i64 i.a, .int .i64 i.b, .int .i64 i.im]
def l6 : List Value := xN.map fun n => .int .i64 ((n : Nat) : Int)
section
variable {W0 : World}
theorem Lr {R} (hH : ∀ A, bF (aT W0 A) 0 0 l6) {op} (h : op < 42) : kg (aT W0 R) 0 (op * 1) (iQ (gn op)) := by
 have a : op < xN.length := h
 have := hH R op (iQ ((gn op : Nat) : Int)) (by
   unfold l6;rw [QcN, QaR a]
   simp [gn, List.getD, a])
 rw [Qac] at this;rw [QaA];exact this
theorem a2z {W0 R} (a : Nat) : sQ W0 310 [iQ a] R (.bool (om a)) R := by
 refine am func310 ntmps310 ?_;refine ci (fun b => ?_) fun b => ?_;rw [show om a = decide ((a : Int) ≤ 41) by unfold om; apply Qaz.2; omega];exact ae ap;rw [show om a = false by unfold om; apply Qal; omega];exact ae ap
theorem F8 {W0 R} may (n : Nat) : sQ W0 311 [.bool may, iQ n] R (.bool (i9 may n)) R := by
 cases may with
 | false =>
  refine am func311 ntmps311 ?_;refine aD rfl ?_ ?_;intro b;refine aw ?_;refine ae ?_;exact ⟨_, ⟨Qak Value.bool (F7 n 0), rfl⟩, IO⟩;intro b;exact absurd (by decide) b
 | true =>
  refine jq 12 func311 ntmps311 ?_;refine jR ?_;refine i6 rfl rfl rfl (fun a => ?_) fun a => ?_;refine au 8 ?_;refine ae ?_;exact ⟨_, ⟨Qak Value.bool (yG n 16), rfl⟩, IO⟩;omega
theorem a2A : ∀ n, n < 16 → eu .i64 (n : Nat) 8 = (n / 8 % 2 * 8 : Nat) := by decide +kernel
theorem a2B : ∀ n, n < 16 → eu .i64 (n : Nat) 1 = (n % 2 : Nat) := by decide +kernel
theorem a2C : ∀ n, n < 16 → eu .i64 (n : Nat) 2 = (n / 2 % 2 * 2 : Nat) := by decide +kernel
theorem a2D : ∀ n, n < 16 → eu .i64 (n : Nat) 4 = (n / 4 % 2 * 4 : Nat) := by decide +kernel
theorem a2E n : (((n / 2 % 2 * 2 : Nat) : Int) != 0) = (n / 2 % 2 != 0) := by
 grind
theorem a2F n : (((n / 4 % 2 * 4 : Nat) : Int) != 0) = (n / 4 % 2 != 0) := by
 grind
theorem Lt : ∀ a, a < 42 → gn a < 16 := by decide +kernel
theorem a2G {W0 R} (hH : ∀ A, bF (aT W0 A) 0 0 l6) (op : Nat) (h : op < 42) n : sQ W0 312 [iQ op, iQ n] R (.bool (dH op n)) R := by
 have d := Lt op h;have e := Lr (R := R) hH h;refine am func312 ntmps312 ?_;refine ai (fun f => ?_) fun f => ?_;refine ci (fun a => ?_) fun a => ?_;rw [show dH op n = decide (n ≤ 31) by rw [dH, Qad (by omega)]; apply Qaz.2; omega];exact ae ap;rw [show dH op n = false by rw [dH, Qad (by omega)]; apply Qal; omega];exact ae ap;refine ai (fun g => ?_) fun g => ?_;refine ci (fun a => ?_) fun a => ?_;rw [show dH op n = decide (n ≤ 31) by rw [dH, Qad (by omega)]; apply Qaz.2; omega];exact ae ap;rw [show dH op n = false by rw [dH, Qad (by omega)]; apply Qal; omega];exact ae ap;refine ai (fun i => ?_) fun i => ?_;refine ci (fun a => ?_) fun a => ?_;rw [show dH op n = decide (n ≤ 31) by rw [dH, Qad (by omega)]; apply Qaz.2; omega];exact ae ap;rw [show dH op n = false by rw [dH, Qad (by omega)]; apply Qal; omega];exact ae ap;refine ai (fun j => ?_) fun j => ?_;refine ci (fun b => ?_) fun b => ?_;rw [show dH op n = decide (n < 9) by rw [dH, Qab (by omega), Qad (by omega)]; apply Qaz.2; omega];exact ae ap;rw [show dH op n = false by rw [dH, Qab (by omega), Qad (by omega)]; apply Qal; omega];exact ae ap;refine ai (fun k => ?_) fun k => ?_;refine ci (fun b => ?_) fun b => ?_;rw [show dH op n = decide (n < 9) by rw [dH, Qab (by omega), Qad (by omega)]; apply Qaz.2; omega];exact ae ap;rw [show dH op n = false by rw [dH, Qab (by omega), Qad (by omega)]; apply Qal; omega];exact ae ap;refine aa (eL h) ?_;refine aa (aF e) ?_;refine aa (eT rfl rfl (a2A _ d)) ?_;refine ai (fun l => ?_) fun l => ?_;refine ae ?_;rw [dH, Qab (by omega), Qab (by omega), Qad (by omega)];exact ⟨_, ⟨Qak Value.bool (by grind), rfl⟩, IO⟩;refine ci (fun c => ?_) fun c => ?_;rw [show dH op n = decide (n ≤ 8191) by rw [dH, Qab (by omega), Qab (by omega), Qab (by omega)]; apply Qaz.2; omega];exact ae ap;rw [show dH op n = false by rw [dH, Qab (by omega), Qab (by omega), Qab (by omega)]; apply Qal; omega];exact ae ap
theorem Bo {W0 R} (hH : ∀ A, bF (aT W0 A) 0 0 l6) i : sQ W0 238 [.agg (fW i).toArray] R (.bool (gX i)) R := by
 obtain ⟨x, B⟩ : ∃ x, gn i.op = x := ⟨_, rfl⟩
 obtain ⟨q, r⟩ : ∃ p, (gn i.op % 2 != 0) = p := ⟨_, rfl⟩
 obtain ⟨s, t⟩ : ∃ p, (gn i.op / 2 % 2 != 0) = p := ⟨_, rfl⟩
 obtain ⟨u, v⟩ : ∃ p, (gn i.op / 4 % 2 != 0) = p := ⟨_, rfl⟩
 obtain ⟨e, w⟩ : ∃ p, i9 q i.d = p := ⟨_, rfl⟩
 obtain ⟨h, y⟩ : ∃ p, i9 s i.a = p := ⟨_, rfl⟩
 obtain ⟨k, z⟩ : ∃ p, i9 u i.b = p := ⟨_, rfl⟩
 have f : gX i = (om i.op && e && h && k && dH i.op i.im) := by
  grind [gX]
 rw [f];refine am func238 ntmps238 ?_;refine bA fun C => ?_;refine ah (aC call310 (a2z i.op)) ?_;refine ai (fun n => ?_) fun n => ?_;refine ae ?_;rw [show om i.op = false by simpa using n];exact ap;have o : om i.op = true := by grind
 have D := Qas o;have c : i.op < 42 := by omega
 have l := Lt i.op c;rw [o, Qbe];refine aa (eL c) ?_;refine aa (aF (Lr hH c)) ?_;refine aa (eT rfl rfl (a2B _ l)) ?_;refine ah (aC Oa (F8 _ i.d)) ?_;rw [yB, r, w];refine ai (fun g => ?_) fun g => ?_;refine ae ?_;rw [show e = false by simpa using g];exact ap;refine aa (eT rfl rfl (a2C _ l)) ?_;refine ah (aC Oa (F8 _ i.a)) ?_;rw [a2E, t, y];refine ai (fun j => ?_) fun j => ?_;refine ae ?_;rw [show e = true by simpa using g, show h = false by simpa using j];exact ap;refine aa (eT rfl rfl (a2D _ l)) ?_;refine ah (aC Oa (F8 _ i.b)) ?_;rw [a2F, v, z];refine ai (fun m => ?_) fun m => ?_;refine ae ?_;rw [show e = true by simpa using g, show h = true by simpa using j, show k = false by simpa using m];exact ap;refine ah (aC call312 (a2G hH i.op c i.im)) ?_;refine ae ?_;rw [show e = true by simpa using g, show h = true by simpa using j, show k = true by simpa using m];exact ap
theorem Bp {W0 R} (w k n : Nat) (e : w < 4294967296) (hk : k ≤ 32) (f : n < 32) : sQ W0 237 [wV w, iQ k, iQ n] R (iQ (w / 2 ^ k % 2 ^ n : Nat)) R := by
 have h : 2 ^ n < 4294967296 := Nat.pow_lt_pow_right (by decide) (show n < 32 from f) (a := 2);have c : 0 < 2 ^ n := Qcr n;have g : w / 2 ^ k < 4294967296 := QaH (QbP _ _) e;have i : w / 2 ^ k % 2 ^ n < 2 ^ n := Qcb _ c;have d : iE .u32 1 ((n : Nat) : Int) = ((2 ^ n : Nat) : Int) := by
  unfold iE;rw [Qaf, Qbm (show n ≤ IntKind.bits .u32 by show n ≤ 32; omega), Int.one_mul];rw [show ((2 : Int) ^ n) = ((2 ^ n : Nat) : Int) by push_cast; rfl];exact cZ (by omega)
 refine am func237 ntmps237 ?_;refine bc [] 9 fun b => ?_;refine aj 0 2 b ?_;refine az 2 b (j8 rfl rfl (by omega) (jS (k := .u32) hk)) ?_;refine aj 3 1 b ?_;refine az 4 b (lg rfl rfl (by omega) d) ?_;refine az 5 b (jo rfl rfl (by rw [show ((2 ^ n : Nat) : Int) - 1 = ((2 ^ n - 1 : Nat) : Int) by omega]; exact cZ (by omega) : IntKind.wrap .u32 (((2 ^ n : Nat) : Int) - 1) = ((2 ^ n - 1 : Nat) : Int))) ?_;refine az 6 b (eT rfl rfl (by rw [lj g (by omega), rH])) ?_;refine az 7 b (bD (bS (by omega))) ?_;refine aj 8 1 b ?_;refine aK ?_;exact ae ap
theorem a2H {w : Nat} (a : w < 4294967296) : jP .i32 (IntKind.wrap .i32 w) 18 = rP w := by
 have e : IntKind.wrap .i32 (w : Int) = if w < 2147483648 then (w : Int) else (w : Int) - 4294967296 := by
  simp only [IntKind.wrap, IntKind.bits, IntKind.signed];simp;omega
 rw [e];unfold jP rP;rw [show min (18 : Int).toNat (IntKind.bits .i32) = 18 by decide];rw [Int.fdiv_eq_ediv_of_nonneg _ (by decide)];split;omega;omega
abbrev Bq : Ins := ⟨0, 0, 0, 0, 0⟩
theorem a2I {W0 R} (l : ∀ A, bF (aT W0 A) 0 0 l6) w (c : w < 4294967296) : sQ W0 166 [wV w] R (.tuple #[.agg (fW (if gX (fF w) then fF w else Bq)).toArray, .bool (gX (fF w))]) R := by
 have f : w / 2 ^ 0 % 2 ^ 6 = (fF w).op := by simp [fF]
 have g : w / 2 ^ 6 % 2 ^ 4 = (fF w).d := rfl;have h : w / 2 ^ 10 % 2 ^ 4 = (fF w).a := rfl;have j : w / 2 ^ 14 % 2 ^ 4 = (fF w).b := rfl;have k : rP w = (fF w).im := rfl;have o := Xz c;obtain ⟨i, m⟩ : ∃ i, fF w = i := ⟨_, rfl⟩
 rw [m] at f g h j k ⊢;obtain ⟨z, n⟩ : ∃ z, gX i = z := ⟨_, rfl⟩
 refine am func166 ntmps166 ?_;refine bi fun p => ?_;refine ah (aC GJ (Bp w 0 6 c (by decide) (by decide))) ?_;rw [f];refine ah (aC GJ (Bp w 6 4 c (by decide) (by decide))) ?_;rw [g];refine ah (aC GJ (Bp w 10 4 c (by decide) (by decide))) ?_;rw [h];refine ah (aC GJ (Bp w 14 4 c (by decide) (by decide))) ?_;rw [j];refine aa (bD rfl) ?_;refine aa (j8 rfl rfl (by decide) ((a2H c).trans k)) ?_;refine aa (bD (bS (by omega))) ?_;refine bi fun q => ?_;refine av aB ?_;refine ah (aC GK (Bo l i)) ?_;rw [n];refine ai (fun e => ?_) fun e => ?_;refine av aB ?_;refine aS (.cons (aX C6 pC rfl rfl) (.cons (aN rfl) .nil)) ?_;rw [show z = false by simpa using e];exact ap;refine av aB ?_;refine aS (.cons (aX C6 pC rfl rfl) (.cons (aN rfl) .nil)) ?_;rw [show z = true by simpa using e];exact ap
theorem Lu {W0 R} (a : Nat) : sQ W0 240 [iQ a] R (.bool (iw a)) R := by
 refine am func240 ntmps240 ?_;refine ai (fun b => ?_) fun b => ?_;refine ae ?_;rw [show iw a = true from Qah (by omega)];exact ap;refine ai (fun c => ?_) fun c => ?_;refine ae ?_;rw [show iw a = true from Qah (by omega)];exact ap;refine ai (fun d => ?_) fun d => ?_;refine ae ?_;rw [show iw a = true from Qah (by omega)];exact ap;refine ai (fun e => ?_) fun e => ?_;refine ae ?_;rw [show iw a = true from Qah (by omega)];exact ap;refine ai (fun f => ?_) fun f => ?_;refine ae ?_;rw [show iw a = true from Qah (by omega)];exact ap;refine ai (fun g => ?_) fun g => ?_;refine ae ?_;rw [show iw a = true from Qah (by omega)];exact ap;refine ae ?_;rw [show iw a = false from Qal (by omega)];exact ap
theorem a2J x y : lH .u32 x y = (u32 (lH .u32 x y)) := by
 grind [lH, d8, vT, dU]
theorem a2K {W0 R} (c : ∀ A, bF (aT W0 A) 0 0 l6) i (b : gX i = true) : sQ W0 314 [.agg (fW i).toArray] R (.tuple #[wV (mN i), iQ 0]) R := by
 obtain ⟨d, e, f, g, h⟩ := rQ b;refine am func314 ntmps314 ?_;refine bA fun j => ?_;refine ah (aC GK (Bo c i)) ?_;refine aD rfl (fun a => ?_) fun a => ?_;rw [b] at a; exact absurd a (by decide);refine aw ?_;refine aa (bD (cZ (by omega))) ?_;refine aa (bD (cZ (by omega))) ?_;refine aa (lg rfl rfl (by decide) rfl) ?_;refine aa (mz rfl rfl rfl) ?_;refine aa (bD (cZ (by omega))) ?_;refine aa (lg rfl rfl (by decide) rfl) ?_;refine aa (mz rfl rfl rfl) ?_;refine aa (bD (cZ (by omega))) ?_;refine aa (lg rfl rfl (by decide) rfl) ?_;refine aa (mz rfl rfl rfl) ?_;refine aa (bD (d8 i.im)) ?_;refine aa (lg rfl rfl (by decide) rfl) ?_;refine aa (mz rfl rfl (a2J _ _)) ?_;exact aA ap
end
@[reducible] def cq (e : Eff) : List Value := [.int .i64 e.k, wV e.pc, wV e.addr, .int .i64 e.width, .bool e.signed, .int .i64 e.d, wV e.val, wV e.cause, wV e.tval]
@[reducible] def coV (i : Ins) (rb cb : Nat) (clock : Int) : List Value := fW i ++ [pV rb, pV cb, .int .i64 clock]
abbrev oB (i : Ins) (rb cb : Nat) (clock : Int) : Obj := ag (coV i rb cb clock) 357
abbrev gy (sb : Nat) (i : Ins) (rb cb : Nat) (clock : Int) (x : Cpu) (id : Nat) (R : List HP) : List HP := pt sb (oB i rb cb clock) :: pt rb (dR x.rl x.pc) :: pt cb (en x.cs id) :: R
section
variable (W0 : World) (R : List HP) (sb : Nat) (i : Ins) (rb cb : Nat) (clock : Int) (x : Cpu) (id : Nat)
theorem qZ (a : CpOk x) (n : Nat) (b : n < 16) : sQ W0 353 [pV sb, iQ n] (pt sb (oB i rb cb clock) :: pt rb (dR x.rl x.pc) :: R) (wV (bP x.rl n)) (pt sb (oB i rb cb clock) :: pt rb (dR x.rl x.pc) :: R) := by
 refine am func353 ntmps353 ?_;refine ah (ao Ob (EH rb x.rl x.pc n a.r.len b)) ?_;exact ae ap
theorem s4 (a : CpOk x) : sQ W0 355 [pV sb] (pt sb (oB i rb cb clock) :: pt rb (dR x.rl x.pc) :: R) (wV (cV x.pc)) (pt sb (oB i rb cb clock) :: pt rb (dR x.rl x.pc) :: R) := by
 refine am func355 ntmps355 ?_;refine ah (ao sD (qS rb x.rl x.pc a.r.len)) ?_;refine aa (cY rfl rfl (d8 _)) ?_;exact ae ap
theorem Lv (b : CpOk x) : sQ W0 361 [pV sb] (pt sb (oB i rb cb clock) :: pt rb (dR x.rl x.pc) :: R) (wV (mP x.pc i.im)) (pt sb (oB i rb cb clock) :: pt rb (dR x.rl x.pc) :: R) := by
 refine am func361 ntmps361 ?_;refine bc [sb] 14 fun a => ?_;refine aj 0 4 a ?_;refine aj 5 5 a ?_;refine az 10 a (bD (d8 i.im)) ?_;refine az 11 a (qj rfl rfl (d8 _)) ?_;refine bG 4 (ao sD (qS rb x.rl x.pc b.r.len)) fun a => ?_;refine az 12 a (cY rfl rfl (d8 _)) ?_;refine aj 13 1 a ?_;refine aK ?_;exact ae ap
theorem yH (b : CpOk x) pc : sQ W0 360 [pV sb, wV pc] (pt sb (oB i rb cb clock) :: pt rb (dR x.rl x.pc) :: R) (.agg (cq (lr x pc).1).toArray) (pt sb (oB i rb cb clock) :: pt rb (dR (lr x pc).2.rl (lr x pc).2.pc) :: R) := by
 refine am func360 ntmps360 ?_;refine bi fun c => ?_;refine aG rfl (iZ CE rfl (yh rb x.rl x.pc pc b.r.len)) ?_;rintro _ d ⟨rfl, a⟩;obtain rfl := a.symm;refine aP (aH (aQ (aY (ac rfl (aM rfl) (ac rfl (fB pD jN (aL aR (aL aU (aL aU (aL aR (aL gO (aL aR (aL aU (aL aU (aL aU fA))))))))) (bW rfl aR rfl rfl (Qaa rfl) SetL.eq (bW rfl aU rfl rfl (Qaa rfl) SetL.eq fz))) ?_)))));refine eU (fM dy rfl rfl rfl rfl rfl) ?_;rintro _ _ rfl;refine aP (aH (dv ?_));exact aS (.cons (aX dM dy rfl rfl) .nil) ap
theorem yI (b : CpOk x) (g : i.d < 16) v pc (f : v < 4294967296) : sP W0 354 [pV sb, wV v, wV pc] (pt sb (oB i rb cb clock) :: pt rb (dR x.rl x.pc) :: R) (fun r B => r = .agg (cq (jT i x v pc).1).toArray ∧ B = pt sb (oB i rb cb clock) :: pt rb (dR (jT i x v pc).2.rl (jT i x v pc).2.pc) :: R) := by
 have a : hJ (i.d : Int) = true := by grind [hJ]
 refine am func354 ntmps354 ?_;refine bi fun h => ?_;refine bc [sb] 11 fun c => ?_;refine aj 0 10 c ?_;refine bX 10 (ao CF (F3 rb x.rl x.pc v i.d b.r.len)) ?_; clear c;rintro _ j ⟨rfl, e⟩;obtain rfl := e.symm;rw [Qad a, Qad a, Qaf];refine ⟨aV, fun c => ?_⟩;refine aK ?_;refine ah (cA CG (yH W0 _ sb i rb cb clock { x with rl := je x.rl i.d v } ⟨b.r.set i.d v f, b.pc, b.cs⟩ pc)) ?_;refine av aB ?_;exact aS (.cons (aX dM dy rfl rfl) .nil) ap
theorem wC {W0 R} c t : sQ W0 241 [wV c, wV t] R (.agg (cq (ma c t)).toArray) R := by
 refine am func241 ntmps241 ?_;refine fi (dQ jN) fun a => ?_;refine aP (aH (aQ (aY (ac rfl (aM rfl) (ac rfl (aM rfl) (ac rfl (fB pD jN (aL aR (aL aU (aL aU (aL aR (aL gO (aL aR (aL aU (aL aU (aL aU fA))))))))) (bW rfl aR rfl rfl (Qaa rfl) SetL.eq (bW rfl aU rfl rfl (Qaa rfl) SetL.eq (bW rfl aU rfl rfl (Qaa rfl) SetL.eq fz)))) ?_))))));refine eU (fM dy rfl rfl rfl rfl rfl) ?_;rintro _ _ rfl;refine aP (aH (dv ?_));exact aS (.cons (aX dM dy rfl rfl) .nil) ap
theorem a2M : sQ W0 358 [pV sb] (pt sb (oB i rb cb clock) :: R) (iQ (mR i.op)) (pt sb (oB i rb cb clock) :: R) := by
 refine am func358 ntmps358 ?_;refine cv (fun a => ?_) fun a => ?_;refine ae ?_;rw [mR, Qad (by omega)];exact ap;refine ai (fun b => ?_) fun b => ?_;refine ae ?_;rw [mR, Qad (by omega)];exact ap;refine ae ?_;rw [mR, Qab (by omega)];exact ap
def F9 (f : FuncId) (o : Eff × Cpu) : Prop := (∀ args w, (callFunc f args).run Tryz.prog w = .ok (.enter f args) w) ∧ ∀ R, bH Tryz.prog W0 f ([pV sb] ++ [] ++ []) (gy sb i rb cb clock x id R) (fun v B => v = .agg (cq o.1).toArray ∧ B = gy sb i rb cb clock o.2 id R)
theorem a2N (c : CpOk x) (j : i.d < 16) (k : i.a < 16) (l : i.b < 16) (h : 1 ≤ i.op ∧ i.op ≤ 13) : sQ W0 315 [pV sb] (gy sb i rb cb clock x id R) (.agg (cq (jT i x (kB i.op (bP x.rl i.a) (bP x.rl i.b)) (cV x.pc)).1).toArray) (gy sb i rb cb clock (jT i x (kB i.op (bP x.rl i.a) (bP x.rl i.b)) (cV x.pc)).2 id R) := by
 have f := c.r.at_ i.a;have g := c.r.at_ i.b;refine am func315 ntmps315 ?_;refine bi fun m => ?_;refine bc [sb] 25 fun e => ?_;refine aj 0 11 e ?_;refine aj 12 6 e ?_;refine bG 11 (cA sF (qZ W0 _ sb i rb cb clock x c i.a k)) fun e => ?_;refine bG 18 (cA sF (qZ W0 _ sb i rb cb clock x c i.b l)) fun e => ?_;refine bG 19 (aC call352 (Lo W0 _ (bP x.rl i.a) (bP x.rl i.b) i.op h f g)) fun e => ?_;refine aj 20 5 e ?_;refine aK ?_;refine ah (cA tV (s4 W0 _ sb i rb cb clock x c)) ?_;refine ah (cA CH (yI W0 _ sb i rb cb clock x c j (kB i.op (bP x.rl i.a) (bP x.rl i.b)) (cV x.pc) (vU f g))) ?_;refine av aB ?_;exact aS (.cons (aX dM dy rfl rfl) .nil) ap
theorem a2O (hx : CpOk x) (hi : i.d < 16) (ha : i.a < 16) (h : 14 ≤ i.op ∧ i.op ≤ 21) : sQ W0 316 [pV sb] (gy sb i rb cb clock x id R) (.agg (cq (jT i x (kB (ir i.op) (bP x.rl i.a) (u32 i.im)) (cV x.pc)).1).toArray) (gy sb i rb cb clock (jT i x (kB (ir i.op) (bP x.rl i.a) (u32 i.im)) (cV x.pc)).2 id R) := by
 have c := hx.r.at_ i.a;have e : 1 ≤ ir i.op ∧ ir i.op ≤ 13 := by
  grind [ir]
 refine am func316 ntmps316 ?_;refine bi fun f => ?_;refine ah (aC call356 (a2x W0 _ i.op h)) ?_;refine bc [sb] 20 fun b => ?_;refine aj 0 7 b ?_;refine aj 8 5 b ?_;refine az 13 b (bD (d8 i.im)) ?_;refine bG 7 (cA sF (qZ W0 _ sb i rb cb clock x hx i.a ha)) fun b => ?_;refine bG 14 (aC call352 (Lo W0 _ (bP x.rl i.a) (u32 i.im) (ir i.op) e c (dU _))) fun b => ?_;refine aj 15 5 b ?_;refine aK ?_;refine ah (cA tV (s4 W0 _ sb i rb cb clock x hx)) ?_;refine ah (cA CH (yI W0 _ sb i rb cb clock x hx hi (kB (ir i.op) (bP x.rl i.a) (u32 i.im)) (cV x.pc) (vU c (dU _)))) ?_;refine av aB ?_;exact aS (.cons (aX dM dy rfl rfl) .nil) ap
theorem a2P (a : CpOk x) (b : i.d < 16) : sQ W0 317 [pV sb] (gy sb i rb cb clock x id R) (.agg (cq (jT i x (uC i.im) (cV x.pc)).1).toArray) (gy sb i rb cb clock (jT i x (uC i.im) (cV x.pc)).2 id R) := by
 refine am func317 ntmps317 ?_;refine bi fun c => ?_;refine ah (aC call357 (a2y W0 _ i.im)) ?_;refine ah (cA tV (s4 W0 _ sb i rb cb clock x a)) ?_;refine ah (cA CH (yI W0 _ sb i rb cb clock x a b (uC i.im) (cV x.pc) (dU _))) ?_;refine av aB ?_;exact aS (.cons (aX dM dy rfl rfl) .nil) ap
theorem a2Q (j : CpOk x) (q : i.a < 16) (p : i.b < 16) (h : 23 ≤ i.op ∧ i.op ≤ 27) : sQ W0 318 [pV sb] (gy sb i rb cb clock x id R) (.agg (cq (rR i x)).toArray) (gy sb i rb cb clock x id R) := by
 have r : mR i.op < 4294967296 := by grind [DW]
 have k : mR i.op ≠ 0 := by grind [mR]
 obtain ⟨c, g⟩ : ∃ a, mQ (bP x.rl i.a) i.im = a := ⟨_, rfl⟩
 obtain ⟨m, l⟩ : ∃ m, mR i.op = m := ⟨_, rfl⟩
 rw [rR, g, l];rw [l] at r k;refine am func318 ntmps318 ?_;refine bi fun n => ?_;refine gD (b := n) (o' := ag (cq m9) 276) rfl ?_;refine bc [sb] 18 fun e => ?_;refine aj 0 6 e ?_;refine aj 7 5 e ?_;refine az 12 e (bD (d8 i.im)) ?_;refine aj 14 1 e ?_;refine bG 6 (cA sF (qZ W0 _ sb i rb cb clock x j i.a q)) fun e => ?_;refine az 13 e (cY rfl rfl (show _ = ((c : Nat) : Int) by rw [← g]; exact d8 _)) ?_;refine bX 15 (ao call358 (a2M W0 _ sb i rb cb clock)) ?_; clear e;rintro _ s ⟨rfl, f⟩;obtain rfl := f.symm;rw [l];refine ⟨aV, fun e => ?_⟩;refine aj 16 2 e ?_;refine aK ?_;refine aa (bD (cZ (by omega))) ?_;refine aa (dV rfl rfl (by omega) (io c m)) ?_;refine ai (fun t => ?_) fun t => ?_;refine ah (aC zG (wC 2 c)) ?_;refine av aB ?_;refine aS (.cons (aX dM dy rfl rfl) .nil) ?_;rw [Qad (by omega)];exact ap;rw [Qab (by omega)];refine aG rfl (zP tV rfl (s4 W0 _ sb i rb cb clock x j)) ?_;rintro _ s ⟨rfl, f⟩;obtain rfl := f.symm;refine ac rfl (fB pD jN (aL aR (aL aU (aL aU (aL aR (aL gO (aL aR (aL aU (aL aU (aL aU fA))))))))) (bW rfl aR rfl rfl (Qaa rfl) SetL.eq (bW rfl aU rfl rfl (Qaa rfl) SetL.eq (bW rfl aR rfl rfl (Qaa rfl) SetL.eq (bW rfl aU rfl rfl (Qaa rfl) SetL.eq fz))))) ?_;refine aG rfl (dQ jN) ?_;rintro _ _ ⟨o, rfl, rfl⟩;refine jb 2 aB ?_;refine dw (fun _ : Unit => True) (fun _ => [(2, pV n), (5, pV o)]) (fun _ => pt n (ag (cq m9) 276) :: pt o (ag (cq (if i.op = 26 ∨ i.op = 27 then ⟨2, cV x.pc, c, m, false, 0, bP x.rl i.b, 0, 0⟩ else ⟨1, cV x.pc, c, m, decide (i.op = 24), i.d, 0, 0, 0⟩)) 276) :: gy sb i rb cb clock x id R) ?_ ?_;refine au 1 ?_;refine gD (b := o) (o' := ag (cq ⟨1, cV x.pc, c, m, false, 0, 0, 0, 0⟩) 276) rfl ?_;refine aw ?_;refine ai (fun u => ?_) fun u => ?_;refine ah (cA sF (qZ W0 _ sb i rb cb clock x j i.b p)) ?_;refine av (iJ (by exact rfl : (cq ⟨1, cV x.pc, c, m, false, 0, 0, 0, 0⟩).set 0 (iQ 2) = cq ⟨2, cV x.pc, c, m, false, 0, 0, 0, 0⟩)) ?_;refine av (iJ (by exact rfl : (cq ⟨2, cV x.pc, c, m, false, 0, 0, 0, 0⟩).set 6 (wV (bP x.rl i.b)) = cq ⟨2, cV x.pc, c, m, false, 0, bP x.rl i.b, 0, 0⟩)) ?_;refine bY () ?_ (he := ?_);trivial;rw [Qad (by omega)];exact IO;refine ai (fun v => ?_) fun v => ?_;refine ah (cA sF (qZ W0 _ sb i rb cb clock x j i.b p)) ?_;refine av (iJ (by exact rfl : (cq ⟨1, cV x.pc, c, m, false, 0, 0, 0, 0⟩).set 0 (iQ 2) = cq ⟨2, cV x.pc, c, m, false, 0, 0, 0, 0⟩)) ?_;refine av (iJ (by exact rfl : (cq ⟨2, cV x.pc, c, m, false, 0, 0, 0, 0⟩).set 6 (wV (bP x.rl i.b)) = cq ⟨2, cV x.pc, c, m, false, 0, bP x.rl i.b, 0, 0⟩)) ?_;refine bY () ?_ (he := ?_);trivial;rw [Qad (by omega)];exact IO;refine ai (fun w => ?_) fun w => ?_;refine av (iJ (by exact rfl : (cq ⟨1, cV x.pc, c, m, false, 0, 0, 0, 0⟩).set 4 (.bool true) = cq ⟨1, cV x.pc, c, m, true, 0, 0, 0, 0⟩)) ?_;refine av (iJ (by exact rfl : (cq ⟨1, cV x.pc, c, m, true, 0, 0, 0, 0⟩).set 5 (iQ i.d) = cq ⟨1, cV x.pc, c, m, true, i.d, 0, 0, 0⟩)) ?_;refine bY () ?_ (he := ?_);trivial;rw [Qab (by omega), Qah (by omega)];exact IO;refine av (iJ (by exact rfl : (cq ⟨1, cV x.pc, c, m, false, 0, 0, 0, 0⟩).set 5 (iQ i.d) = cq ⟨1, cV x.pc, c, m, false, i.d, 0, 0, 0⟩)) ?_
 refine bY () ?_ (he := ?_);trivial;rw [Qab (by omega), Qal (by omega)];exact IO;intro _ _;refine aw ?_;refine av aB ?_;exact aS (.cons (aX dM dy rfl rfl) .nil) ap
theorem a2R (d : CpOk x) (g : i.a < 16) (j : i.b < 16) (h : 28 ≤ i.op ∧ i.op ≤ 31) : sQ W0 319 [pV sb] (gy sb i rb cb clock x id R) (.agg (cq (lr x (if uB i.op (bP x.rl i.a) (bP x.rl i.b) then mP x.pc i.im else cV x.pc)).1).toArray) (gy sb i rb cb clock (lr x (if uB i.op (bP x.rl i.a) (bP x.rl i.b) then mP x.pc i.im else cV x.pc)).2 id R) := by
 obtain ⟨z, k⟩ : ∃ z, uB i.op (bP x.rl i.a) (bP x.rl i.b) = z := ⟨_, rfl⟩
 refine am func319 ntmps319 ?_;refine bi fun l => ?_;refine bc [sb] 25 fun c => ?_;refine aj 0 11 c ?_;refine aj 12 6 c ?_;refine bG 11 (cA sF (qZ W0 _ sb i rb cb clock x d i.a g)) fun c => ?_;refine bG 18 (cA sF (qZ W0 _ sb i rb cb clock x d i.b j)) fun c => ?_;refine bX 19 (aC call359 (a2w W0 _ (bP x.rl i.a) (bP x.rl i.b) i.op h)) ?_; clear c;rintro _ m ⟨rfl, e⟩;obtain rfl := e.symm;rw [k];refine ⟨aV, fun c => ?_⟩;refine aj 20 5 c ?_;refine aK ?_;refine ai (fun f => ?_) fun f => ?_;rw [Qad f];refine ah (cA call361 (Lv W0 _ sb i rb cb clock x d)) ?_;refine ah (cA CG (yH W0 _ sb i rb cb clock x d (mP x.pc i.im))) ?_;refine av aB ?_;exact aS (.cons (aX dM dy rfl rfl) .nil) ap;rw [Qab f];refine ah (cA tV (s4 W0 _ sb i rb cb clock x d)) ?_;refine ah (cA CG (yH W0 _ sb i rb cb clock x d (cV x.pc))) ?_;refine av aB ?_;exact aS (.cons (aX dM dy rfl rfl) .nil) ap
theorem a2S (e : CpOk x) (g : i.d < 16) (h : i.a < 16) : sQ W0 320 [pV sb] (gy sb i rb cb clock x id R) (.agg (cq (jT i x (cV x.pc) (if i.op = 33 then mQ (bP x.rl i.a) i.im else mP x.pc i.im)).1).toArray) (gy sb i rb cb clock (jT i x (cV x.pc) (if i.op = 33 then mQ (bP x.rl i.a) i.im else mP x.pc i.im)).2 id R) := by
 refine am func320 ntmps320 ?_;refine bi fun f => ?_;refine gD (b := f) (o' := ag (cq m9) 276) rfl ?_;refine aw ?_;refine ew 3 (cA call361 (Lv W0 _ sb i rb cb clock x e)) ?_;refine dw (fun _ : Unit => True) (fun _ => [(0, pV sb), (2, pV f), (3, wV (if i.op = 33 then mQ (bP x.rl i.a) i.im else mP x.pc i.im))]) (fun _ => pt f (ag (cq m9) 276) :: gy sb i rb cb clock x id R) ?_ ?_;refine au 10 ?_;refine ai (fun j => ?_) fun j => ?_;refine bc [sb] 15 fun c => ?_;refine aj 0 6 c ?_;refine aj 7 5 c ?_;refine az 12 c (bD (d8 i.im)) ?_;refine bG 6 (cA sF (qZ W0 _ sb i rb cb clock x e i.a h)) fun c => ?_;refine az 13 c (cY rfl rfl (d8 _)) ?_;refine aj 14 1 c ?_;refine aK ?_;refine dD () ?_ ?_ ?_;trivial
 · rw [Qad (by omega)]
   repeat (first | exact bC | refine bq rfl ?_)
 exact IO;refine dD () ?_ ?_ ?_;trivial
 · rw [Qab (by omega)]
   repeat (first | exact bC | refine bq rfl ?_)
 exact IO;intro _ _;refine aw ?_;refine ah (cA tV (s4 W0 _ sb i rb cb clock x e)) ?_;refine ah (cA CH (yI W0 _ sb i rb cb clock x e g (cV x.pc) (if i.op = 33 then mQ (bP x.rl i.a) i.im else mP x.pc i.im) (dU _))) ?_;refine av aB ?_;exact aS (.cons (aX dM dy rfl rfl) .nil) ap
theorem a2T (d : CpOk x) : sQ W0 366 [pV sb] (gy sb i rb cb clock x id R) (.agg (cq ⟨qH i.op, cV x.pc, 0, 0, false, 0, 0, 0, 0⟩).toArray) (gy sb i rb cb clock x id R) := by
 refine am func366 ntmps366 ?_;refine fi (dQ jN) fun a => ?_;refine au 3 ?_;refine gD (b := a) (o' := ag (cq m9) 276) rfl ?_;refine au 4 ?_;refine dw (fun _ : Unit => True) (fun _ => [(0, pV sb), (2, pV a), (3, iQ ((qH i.op : Nat) : Int))]) (fun _ => pt a (ag (cq m9) 276) :: gy sb i rb cb clock x id R) ?_ ?_;refine au 16 ?_;refine ai (fun e => ?_) fun e => ?_;refine dD () ?_ ?_ ?_;trivial
 · rw [qH, Qad (by omega)]
   repeat (first | exact bC | refine bq rfl ?_)
 exact IO;refine ai (fun f => ?_) fun f => ?_;refine dD () ?_ ?_ ?_;trivial
 · rw [qH, Qab (by omega), Qad (by omega)]
   repeat (first | exact bC | refine bq rfl ?_)
 exact IO;refine dD () ?_ ?_ ?_;trivial
 · rw [qH, Qab (by omega), Qab (by omega)]
   repeat (first | exact bC | refine bq rfl ?_)
 exact IO;intro _ _;refine aw ?_;refine aG rfl (zP tV rfl (s4 W0 _ sb i rb cb clock x d)) ?_;rintro _ g ⟨rfl, c⟩;obtain rfl := c.symm;refine ac rfl (fB pD jN (aL aR (aL aU (aL aU (aL aR (aL gO (aL aR (aL aU (aL aU (aL aU fA))))))))) (bW rfl aR rfl rfl (Qaa rfl) SetL.eq (bW rfl aU rfl rfl (Qaa rfl) SetL.eq fz))) ?_;refine eU (fM dy rfl rfl rfl rfl rfl) ?_;rintro _ _ rfl;refine aP (aH (dv ?_));exact aS (.cons (aX dM dy rfl rfl) .nil) ap
theorem Lw (a : CpOk x) (h : i.op = 34 ∨ i.op = 41) : sQ W0 362 [pV sb] (gy sb i rb cb clock x id R) (.agg (cq (if i.op = 34 then ma 6 0 else ma 8 x.pc)).toArray) (gy sb i rb cb clock x id R) := by
 refine am func362 ntmps362 ?_;refine bi fun c => ?_;refine ai (fun b => ?_) fun b => ?_;refine ah (ao sD (qS rb x.rl x.pc a.r.len)) ?_;refine ah (aC zG (wC 8 x.pc)) ?_;refine av aB ?_;refine aS (.cons (aX dM dy rfl rfl) .nil) ?_;rw [Qab (by omega)];exact ap;refine ah (aC zG (wC 6 0)) ?_;refine av aB ?_;refine aS (.cons (aX dM dy rfl rfl) .nil) ?_;rw [Qad (by omega)];exact ap
theorem a2U (a : CpOk x) : sQ W0 363 [pV sb] (gy sb i rb cb clock x id R) (.agg (cq (lr { x with cs := oX x.cs } (dm x.cs 2)).1).toArray) (gy sb i rb cb clock (lr { x with cs := oX x.cs } (dm x.cs 2)).2 id R) := by
 refine am func363 ntmps363 ?_;refine bi fun b => ?_;refine ah (ao call395 (a2j cb a.cs)) ?_;refine ah (cA CG (yH W0 _ sb i rb cb clock x a (dm x.cs 2))) ?_;refine av aB ?_;exact aS (.cons (aX dM dy rfl rfl) .nil) ap
theorem a2V (e : CpOk x) (h : i.d < 16) (c : id < 4) (l : 0 ≤ clock) (hk : e8 x.cs = true) (n : Nat) (j : i.im = n) (m : n < 9) : sQ W0 364 [pV sb] (gy sb i rb cb clock x id R) (.agg (cq (jT i x (oY x.cs id clock.toNat n) (cV x.pc)).1).toArray) (gy sb i rb cb clock (jT i x (oY x.cs id clock.toNat n) (cV x.pc)).2 id R) := by
 obtain ⟨k, d, a, b, o⟩ := i;dsimp only at j h;subst j;refine am func364 ntmps364 ?_;refine bi fun p => ?_;refine bc [sb] 19 fun f => ?_;refine aj 0 13 f ?_;refine bX 13 (ao call313 (Lc cb e.cs c n m clock l)) ?_; clear f;rintro _ q ⟨rfl, g⟩;obtain rfl := g.symm;rw [hk, Qad rfl];refine ⟨aV, fun f => ?_⟩;refine aj 14 5 f ?_;refine aK ?_;refine ah (cA tV (s4 W0 _ sb ⟨k, d, a, b, n⟩ rb cb clock x e)) ?_;refine ah (cA CH (yI W0 _ sb ⟨k, d, a, b, n⟩ rb cb clock x e h (oY x.cs id clock.toNat n) (cV x.pc) (DU e.cs c))) ?_;refine av aB ?_;exact aS (.cons (aX dM dy rfl rfl) .nil) ap
theorem Fa {W0 R} (a : ∀ A, bF (aT W0 A) 0 0 l6) i (b : gX i = true) : sQ W0 242 [.agg (fW i).toArray] R (wV (mN i)) R := by
 refine am func242 ntmps242 ?_;refine bA fun c => ?_;refine ah (aC call314 (a2K a i b)) ?_;exact ae ap
theorem a2W (l : ∀ A, bF (aT W0 A) 0 0 l6) (e : CpOk x) (m : gX i = true) (j : i.a < 16) (hk : e8 x.cs = true) (n : Nat) (k : i.im = n) (o : n < 9) : sQ W0 365 [pV sb] (gy sb i rb cb clock x id R) (.agg (cq (if n ≤ 6 then lr { x with cs := x.cs.set n (kD n (bP x.rl i.a)) } (cV x.pc) else (ma 1 (mN i), x)).1).toArray) (gy sb i rb cb clock (if n ≤ 6 then lr { x with cs := x.cs.set n (kD n (bP x.rl i.a)) } (cV x.pc) else (ma 1 (mN i), x)).2 id R) := by
 obtain ⟨c, d, a, b, p⟩ := i;dsimp only at k j ⊢;subst k;refine am func365 ntmps365 ?_;refine bi fun s => ?_;refine bc [sb] 18 fun f => ?_;refine aj 0 15 f ?_;refine bG 15 (cA sF (qZ W0 _ sb ⟨c, d, a, b, n⟩ rb cb clock x e a j)) fun f => ?_;refine bG 16 (ao call396 (a2g cb e.cs n (bP x.rl a) o (e.r.at_ a) hk)) fun f => ?_;refine aj 17 1 f ?_;refine aK ?_;refine ai (fun g => ?_) fun g => ?_;have h : ¬ n ≤ 6 := fun q => by rw [Qad q] at g; exact absurd rfl g
 simp only [Qab h];refine aa (dt (pG (vs := fW ⟨c, d, a, b, n⟩) rfl)) ?_;refine ah (aC Oc (Fa l ⟨c, d, a, b, n⟩ m)) ?_;refine ah (aC zG (wC 1 (mN ⟨c, d, a, b, n⟩))) ?_;refine av aB ?_;exact aS (.cons (aX dM dy rfl rfl) .nil) ap;have h : n ≤ 6 := by
  omega
 simp only [Qad h];refine ah (cA tV (s4 W0 _ sb ⟨c, d, a, b, n⟩ rb cb clock x e)) ?_;refine ah (cA CG (yH W0 _ sb ⟨c, d, a, b, n⟩ rb cb clock x e (cV x.pc))) ?_;refine av aB ?_;exact aS (.cons (aX dM dy rfl rfl) .nil) ap
theorem pn {f o o'} (b : ∀ a w, (callFunc f a).run Tryz.prog w = .ok (.enter f a) w) (e : o = o') (h : ∀ R, bH Tryz.prog W0 f [pV sb] (gy sb i rb cb clock x id R) (fun v B => v = .agg (cq o'.1).toArray ∧ B = gy sb i rb cb clock o'.2 id R)) : F9 W0 sb i rb cb clock x id f o := ⟨b, by rw [e]; exact h⟩
theorem Lx {i} (a : gX i = true) (h : i.op = 37 ∨ i.op = 38) : ∃ n : Nat, i.im = n ∧ n < 9 := by
 have := (rQ a).2.2.2.2;rw [dH, Qab (by omega), Qad h] at this;have := Qas this;exact ⟨i.im.toNat, by omega, by omega⟩
theorem a2X (g : ∀ A, bF (aT W0 A) 0 0 l6) (a : CpOk x) (c : gX i = true) (d : id < 4) (j : 0 ≤ clock) (h : 34 ≤ i.op) (hk : iw i.op = true → e8 x.cs = true) : sP W0 321 [pV sb] (gy sb i rb cb clock x id R) (fun v B => ∃ f, v = .func (.func f) #[pV sb] #[] ∧ B = gy sb i rb cb clock x id R ∧ F9 W0 sb i rb cb clock x id f (kE id clock.toNat i x)) := by
 obtain ⟨t, k, l, u, m⟩ := rQ c;refine am func321 ntmps321 ?_;refine ai (fun o => ?_) fun o => ?_;refine ae ?_;refine ⟨_, ⟨_, rfl, rfl, pn W0 sb i rb cb clock x id (o' := (if i.op = 34 then ma 6 0 else ma 8 x.pc, x)) call362 ?_ fun R => Lw W0 R sb i rb cb clock x id a (by omega)⟩, IO⟩;unfold kE;split;rfl;rw [Qad (by omega)];refine ai (fun p => ?_) fun p => ?_;refine ae ?_;refine ⟨_, ⟨_, rfl, rfl, pn W0 sb i rb cb clock x id (o' := (if i.op = 34 then ma 6 0 else ma 8 x.pc, x)) call362 ?_ fun R => Lw W0 R sb i rb cb clock x id a (by omega)⟩, IO⟩;unfold kE;split;rfl;rw [Qad (by omega)];refine ai (fun q => ?_) fun q => ?_;refine ae ?_;refine ⟨_, ⟨_, rfl, rfl, pn W0 sb i rb cb clock x id call363 ?_ fun R => a2U W0 R sb i rb cb clock x id a⟩, IO⟩;rw [kE, Qab (by omega), Qab (by omega), Qad (by omega)];refine ai (fun r => ?_) fun r => ?_;refine ae ?_;obtain ⟨n, b, e⟩ := Lx c (by omega);refine ⟨_, ⟨_, rfl, rfl, pn W0 sb i rb cb clock x id call364 ?_ fun R => a2V W0 R sb i rb cb clock x id a k d j (hk (Qah (by omega))) n b e⟩, IO⟩;rw [kE, Qab (by omega), Qab (by omega), Qab (by omega), Qad (by omega), b, Qaf];refine ai (fun s => ?_) fun s => ?_;refine ae ?_;obtain ⟨n, b, e⟩ := Lx c (by omega);refine ⟨_, ⟨_, rfl, rfl, pn W0 sb i rb cb clock x id call365 ?_ fun R => a2W W0 R sb i rb cb clock x id g a c l (hk (Qah (by omega))) n b e⟩, IO⟩;rw [kE, Qab (by omega), Qab (by omega), Qab (by omega), Qab (by omega), Qad (by omega), b, Qaf];refine ae ?_;refine ⟨_, ⟨_, rfl, rfl, pn W0 sb i rb cb clock x id (o' := (⟨qH i.op, cV x.pc, 0, 0, false, 0, 0, 0, 0⟩, x)) call366 ?_ fun R => a2T W0 R sb i rb cb clock x id a⟩, IO⟩;rw [kE, Qab (by omega), Qab (by omega), Qab (by omega), Qab (by omega), Qab (by omega)]
theorem Br (m : ∀ A, bF (aT W0 A) 0 0 l6) (a : CpOk x) (k : gX i = true) (d : id < 4) (n : 0 ≤ clock) (hk : iw i.op = true → e8 x.cs = true) : sP W0 243 [pV sb] (gy sb i rb cb clock x id R) (fun v B => ∃ f, v = .func (.func f) #[pV sb] #[] ∧ B = gy sb i rb cb clock x id R ∧ F9 W0 sb i rb cb clock x id f (gF id clock.toNat i x)) := by
 obtain ⟨t, c, b, e, o⟩ := rQ k;refine am func243 ntmps243 ?_;refine ai (fun p => ?_) fun p => ?_;refine ae ?_;refine ⟨_, ⟨_, rfl, rfl, pn W0 sb i rb cb clock x id call315 ?_ fun R => a2N W0 R sb i rb cb clock x id a c b e (by omega)⟩, IO⟩;rw [gF, Qad (by omega)];refine ai (fun q => ?_) fun q => ?_;refine ae ?_;refine ⟨_, ⟨_, rfl, rfl, pn W0 sb i rb cb clock x id call316 ?_ fun R => a2O W0 R sb i rb cb clock x id a c b (by omega)⟩, IO⟩;rw [gF, Qab (by omega), Qad (by omega)];refine ai (fun r => ?_) fun r => ?_;refine ae ?_;refine ⟨_, ⟨_, rfl, rfl, pn W0 sb i rb cb clock x id call317 ?_ fun R => a2P W0 R sb i rb cb clock x id a c⟩, IO⟩;rw [gF, Qab (by omega), Qab (by omega), Qad (by omega)];refine ai (fun s => ?_) fun s => ?_;refine ae ?_;refine ⟨_, ⟨_, rfl, rfl, pn W0 sb i rb cb clock x id (o' := (rR i x, x)) call318 ?_ fun R => a2Q W0 R sb i rb cb clock x id a b e (by omega)⟩, IO⟩;rw [gF, Qab (by omega), Qab (by omega), Qab (by omega), Qad (by omega)];refine ai (fun g => ?_) fun g => ?_;refine ae ?_;refine ⟨_, ⟨_, rfl, rfl, pn W0 sb i rb cb clock x id call319 ?_ fun R => a2R W0 R sb i rb cb clock x id a b e (by omega)⟩, IO⟩;rw [gF, Qab (by omega), Qab (by omega), Qab (by omega), Qab (by omega), Qad (by omega)];refine ai (fun h => ?_) fun h => ?_;refine ae ?_;refine ⟨_, ⟨_, rfl, rfl, pn W0 sb i rb cb clock x id call320 ?_ fun R => a2S W0 R sb i rb cb clock x id a c b⟩, IO⟩;rw [gF, Qab (by omega), Qab (by omega), Qab (by omega), Qab (by omega), Qab (by omega), Qad (by omega)];refine aG rfl (cK call321 (a2X W0 _ sb i rb cb clock x id m a k d n (by omega) hk)) ?_;rintro _ u ⟨f, rfl, j, l⟩;obtain rfl := j.symm;rw [show kE id clock.toNat i x = gF id clock.toNat i x by rw [gF, Qab (by omega), Qab (by omega), Qab (by omega), Qab (by omega), Qab (by omega), Qab (by omega)]] at l;refine aw ?_;refine ae ?_;exact ⟨_, ⟨f, rfl, rfl, l⟩, IO⟩
theorem a2Y {W0 R} cb cs id (h : CsOk cs) (a : id < 4) : sQ W0 239 [pV cb] (pt cb (en cs id) :: R) (.bool false) (pt cb (en cs id) :: R) := by
 refine am func239 ntmps239 ?_;refine ah (ao call313 (Lc cb h a 0 (by decide) 0 (by decide))) ?_;refine ae ?_;refine aI ?_;cases e8 cs <;> rfl
theorem Fb (n : ∀ A, bF (aT W0 A) 0 0 l6) (m : CpOk x) (o : gX i = true) (h : id < 4) (v : 0 ≤ clock) : sQ W0 167 [.agg (fW i).toArray, pV rb, pV cb, iQ clock] (pt rb (dR x.rl x.pc) :: pt cb (en x.cs id) :: R) (.tuple #[.agg (cq (jU id clock.toNat i x).1).toArray, iQ 0]) (pt rb (dR (jU id clock.toNat i x).2.rl (jU id clock.toNat i x).2.pc) :: pt cb (en (jU id clock.toNat i x).2.cs id) :: R) := by
 obtain ⟨t, b⟩ : ∃ k, e8 x.cs = k := ⟨_, rfl⟩
 obtain ⟨w, c⟩ : ∃ k, iw i.op = k := ⟨_, rfl⟩
 have D : ∀ z : Bool, (z && false) = false := fun z => by cases z <;> rfl
 rw [jU, b, c];refine am func167 ntmps167 ?_;refine bA fun E => ?_;refine bi fun F => ?_;refine ah (ao Ob (EH rb x.rl x.pc 0 m.r.len (by decide))) ?_;refine ai (fun C => ?_) fun C => ?_;exact absurd rfl C;refine ah (ao call109 (Ld cb m.cs)) ?_;refine aa (xy iP aU Gj rfl) ?_;refine aa (vx Tryz.eqGuardType102 rfl rfl (y8 (i := Tryz.t46) (ms := x.cs.map Int.ofNat) (ns := [0, 0, 0, 0, 0, 0, 0]) iP (by kernel_rfl) (by kernel_rfl) sx lY (by rw [Qcg]; rfl) rfl (by rw [Qav]; exact m.cs.len) rfl)) ?_;refine ci (fun u => ?_) fun u => ?_;refine ew 3 (ao call239 (a2Y cb x.cs id m.cs h)) ?_;refine aD rfl (fun y => ?_) fun y => ?_
 first | exact absurd y (by decide) | (cases y)
 refine aw ?_;refine ah (aC GK (Bo n i)) ?_;refine aD rfl (fun p => ?_) fun p => ?_;rw [o] at p; exact absurd p (by decide);refine aw ?_;refine ah (aC call240 (Lu i.op)) ?_;rw [c];refine ci (fun a => ?_) fun a => ?_;refine ah (ao CI (yE cb m.cs)) ?_;rw [show qY x.cs = [.bool (iu x.cs), iQ (gY x.cs), .bool (!t)] by rw [qY, b]];refine aa (EF rfl Gh rfl nj rfl) ?_;refine ai (fun s => ?_) fun s => ?_;refine ah (aC Oc (Fa n i o)) ?_;refine ah (aC zG (wC 7 (mN i))) ?_;refine av aB ?_;refine aS (.cons (aX dM dy rfl rfl) (.cons (aN rfl) .nil)) ?_;rw [Qad (by grind)];exact ap;have d : iw i.op = true → e8 x.cs = true := fun q => by
  rw [c] at q;rw [b]
  first | (simpa using s) | (subst q; exact absurd rfl a) | exact absurd q a
 have e : (w && !t) = false := by
  grind
 rw [e, Qab (by decide)];refine aa (fB Cg GL (aL pC (aL tN (aL tO (aL aR fA)))) (kj rfl pC rfl rfl (Qaa rfl) SetRL.eq (bW rfl tN rfl rfl (Qaa rfl) SetL.eq (bW rfl tO rfl rfl (Qaa rfl) SetL.eq (bW rfl aR rfl rfl (Qaa rfl) SetL.eq fz))))) ?_;refine bA fun j => ?_;refine aG rfl (cK GM (Br W0 _ j i rb cb clock x id n m o h v d)) ?_;rintro _ B ⟨f, rfl, g, l⟩;obtain rfl := g.symm;refine aw ?_;refine ah (km sV (jp (us := [pV j]) (cs := []) rfl l.1 rfl (l.2 _))) ?_;refine av aB ?_;exact aS (.cons (aX dM dy rfl rfl) (.cons (aN rfl) .nil)) ap;have d : iw i.op = true → e8 x.cs = true := fun q => by
  rw [c] at q;rw [b]
  first | (simpa using s) | (subst q; exact absurd rfl a) | exact absurd q a
 have e : (w && !t) = false := by
  grind
 rw [e, Qab (by decide)];refine aa (fB Cg GL (aL pC (aL tN (aL tO (aL aR fA)))) (kj rfl pC rfl rfl (Qaa rfl) SetRL.eq (bW rfl tN rfl rfl (Qaa rfl) SetL.eq (bW rfl tO rfl rfl (Qaa rfl) SetL.eq (bW rfl aR rfl rfl (Qaa rfl) SetL.eq fz))))) ?_;refine bA fun j => ?_;refine aG rfl (cK GM (Br W0 _ j i rb cb clock x id n m o h v d)) ?_;rintro _ B ⟨f, rfl, g, l⟩;obtain rfl := g.symm;refine aw ?_;refine ah (km sV (jp (us := [pV j]) (cs := []) rfl l.1 rfl (l.2 _))) ?_;refine av aB ?_;exact aS (.cons (aX dM dy rfl rfl) (.cons (aN rfl) .nil)) ap;refine ah (aC GK (Bo n i)) ?_;refine aD rfl (fun p => ?_) fun p => ?_;rw [o] at p; exact absurd p (by decide);refine aw ?_;refine ah (aC call240 (Lu i.op)) ?_;rw [c];refine ci (fun a => ?_) fun a => ?_;refine ah (ao CI (yE cb m.cs)) ?_;rw [show qY x.cs = [.bool (iu x.cs), iQ (gY x.cs), .bool (!t)] by rw [qY, b]];refine aa (EF rfl Gh rfl nj rfl) ?_;refine ai (fun s => ?_) fun s => ?_;refine ah (aC Oc (Fa n i o)) ?_;refine ah (aC zG (wC 7 (mN i))) ?_;refine av aB ?_;refine aS (.cons (aX dM dy rfl rfl) (.cons (aN rfl) .nil)) ?_;rw [Qad (by grind)];exact ap;have d : iw i.op = true → e8 x.cs = true := fun q => by
  rw [c] at q;rw [b]
  first | (simpa using s) | (subst q; exact absurd rfl a) | exact absurd q a
 have e : (w && !t) = false := by
  grind
 rw [e, Qab (by decide)];refine aa (fB Cg GL (aL pC (aL tN (aL tO (aL aR fA)))) (kj rfl pC rfl rfl (Qaa rfl) SetRL.eq (bW rfl tN rfl rfl (Qaa rfl) SetL.eq (bW rfl tO rfl rfl (Qaa rfl) SetL.eq (bW rfl aR rfl rfl (Qaa rfl) SetL.eq fz))))) ?_;refine bA fun j => ?_;refine aG rfl (cK GM (Br W0 _ j i rb cb clock x id n m o h v d)) ?_;rintro _ B ⟨f, rfl, g, l⟩;obtain rfl := g.symm;refine aw ?_;refine ah (km sV (jp (us := [pV j]) (cs := []) rfl l.1 rfl (l.2 _))) ?_;refine av aB ?_;exact aS (.cons (aX dM dy rfl rfl) (.cons (aN rfl) .nil)) ap;have d : iw i.op = true → e8 x.cs = true := fun q => by
  rw [c] at q;rw [b]
  first | (simpa using s) | (subst q; exact absurd rfl a) | exact absurd q a
 have e : (w && !t) = false := by
  grind
 rw [e, Qab (by decide)];refine aa (fB Cg GL (aL pC (aL tN (aL tO (aL aR fA)))) (kj rfl pC rfl rfl (Qaa rfl) SetRL.eq (bW rfl tN rfl rfl (Qaa rfl) SetL.eq (bW rfl tO rfl rfl (Qaa rfl) SetL.eq (bW rfl aR rfl rfl (Qaa rfl) SetL.eq fz))))) ?_;refine bA fun j => ?_;refine aG rfl (cK GM (Br W0 _ j i rb cb clock x id n m o h v d)) ?_;rintro _ B ⟨f, rfl, g, l⟩;obtain rfl := g.symm;refine aw ?_;refine ah (km sV (jp (us := [pV j]) (cs := []) rfl l.1 rfl (l.2 _))) ?_;refine av aB ?_;exact aS (.cons (aX dM dy rfl rfl) (.cons (aN rfl) .nil)) ap
end
def tC (r : Int) (a0 a1 a2 : Bool) : Int :=
  let x0 := eu .i64 r 8
  let x1 := if eu .i64 r 4 ≠ 0 ∧ a0 = true then lH .i64 x0 4 else x0
  let x2 := if eu .i64 r 1 ≠ 0 ∧ a1 = true then lH .i64 x1 1 else x1
  if eu .i64 r 2 ≠ 0 ∧ a2 = true then lH .i64 x2 2 else x2
theorem a2Z pg r p : iN pg r p 3 = tC r (decide (e6 pg p 0 = 0)) (decide (e6 pg p 1 = 0)) (decide (e6 pg p 2 = 0)) := by
 grind [iN, tC, qX]
theorem a20 : ∀ n : Nat, n < 16 → ∀ a b c, (0 ≤ tC n a b c ∧ tC n a b c < 16) ∧ (eQ (tC n a b c) 1 = true → eQ n 1 = true ∧ b = true) ∧ (eQ (tC n a b c) 2 = true → eQ n 2 = true ∧ c = true) ∧ (eQ (tC n a b c) 4 = true → eQ n 4 = true ∧ a = true) ∧ (eQ (tC n a b c) 8 = true → eQ n 8 = true) := by
 decide +kernel
theorem a21 pg (n : Nat) (d : n < 16) p : (0 ≤ iN pg n p 3 ∧ iN pg n p 3 < 16) ∧ (∀ k, jD k = true → eQ (iN pg n p 3) (iT k) = true → e6 pg p k = 0) ∧ ∀ c, c = 1 ∨ c = 2 ∨ c = 4 ∨ c = 8 → eQ (iN pg n p 3) c = true → eQ n c = true := by
 obtain ⟨e, f, g, h, i⟩ := a20 n d (decide (e6 pg p 0 = 0)) (decide (e6 pg p 1 = 0)) (decide (e6 pg p 2 = 0));rw [a2Z];refine ⟨e, fun k b a => ?_, fun c j a => ?_⟩;have b := Qas b;rcases b with rfl | rfl | rfl;exact Qas (h a).2;exact Qas (f a).2;exact Qas (g a).2;grind
theorem a22 {a b} (h : a / 64 = b / 64) : a / 1024 = b / 1024 := by omega
theorem a23 {fr pg root va va'} (h : WkOkM fr pg root va) (b : va' < 16384) (he : va' / 64 = va / 64) : cy fr pg root va' = cy fr pg root va ∧ eZ fr pg va' root = eZ fr pg va root := by
 have c := a22 he;have a : eZ fr pg va' root = eZ fr pg va root := by grind [eZ]
 have d : jt fr pg va' root = jt fr pg va root := by grind [jt]
 have e : ∀ s, kV fr pg va' root s = kV fr pg va root s := fun s => by unfold kV; rw [c]
 refine ⟨?_, a⟩;rw [cy, cy, Qad b, Qad h.lim, d, h.rb, Qad rfl, Qad rfl];simp only [fV];rw [a, e];unfold pP;rw [he]
theorem a24 {fr pg root va} (h : WkOkM fr pg root va) (k : aW pg (cy fr pg root va).p = true) :
    LOk fr pg 0 ⟨e7 root va, ((cy fr pg root va).p, (bJ pg (cy fr pg root va).p).1, iN pg (cy fr pg root va).r (cy fr pg root va).p 3), (cy fr pg root va).root, (cy fr pg root va).leaf⟩ := by
 obtain ⟨s, l⟩ : ∃ s, cy fr pg root va = s := ⟨_, rfl⟩
 have b := h.eq;rw [l] at b k ⊢;have g : ∃ n : Nat, s.r = (n : Int) ∧ n < 16 := ⟨oi (ej fr pg (eZ fr pg va root) (va / 64)), by rw [b], by unfold oi; split; decide; exact I1 _⟩
 obtain ⟨n, g, d⟩ := g;obtain ⟨m, o, q⟩ := a21 pg n d s.p;rw [← g] at m o q;have i : s.on = true := by
  rw [b];have t := h.lf;unfold ny at t;show oe _ = true;unfold oe;split at t;omega;grind [rJ]
 have e : s.root = root := by rw [b]
 have f : s.leaf = eZ fr pg va root := by rw [b]
 refine ⟨⟨?_, ?_⟩, ⟨k, rfl⟩, o, m, fun _ _ a u v => ?_⟩;show 0 ≤ s.root ∧ s.root < 8;rw [e]; exact (qD.1 (Bj.1 h.rb).1).1;show 0 ≤ s.leaf ∧ s.leaf < 8;rw [f]; exact (qD.1 h.lt).1;have j : a / 64 = va / 64 := by
  have : ((a / 64 : Nat) : Int) = ((va / 64 : Nat) : Int) := v;omega
 obtain ⟨w, x⟩ := a23 h u j;show WkOkM fr pg root a ∧ root = s.root ∧ eZ fr pg a root = s.leaf ∧ (cy fr pg root a).on = true ∧ (cy fr pg root a).p = s.p ∧ ∀ c, c = 1 ∨ c = 2 ∨ c = 4 ∨ c = 8 → eQ (iN pg s.r s.p 3) c = true → eQ (cy fr pg root a).r c = true;rw [w, x, l];refine ⟨Bl (by grind), e.symm, f.symm, i, rfl, fun c y z => ?_⟩;exact q c y z
theorem MOk.fill {fr pg L T T'} (h : MOk fr pg 0 L T) {k e r l} room now (c : LOk fr pg 0 ⟨k, e, r, l⟩)
    (d : ∀ y ∈ T', y ∈ ly room now k (lz k e r l L).e (ji (mg L r l) T) ∧ (l5 y.key (mh k e r l L)).isSome = true) : MOk fr pg 0 (mh k e r l L) T' := by
 refine ⟨h.F, by decide, h.P, h.pl, (h.ti.fill k e r l room now).sub' fun y f => QaC.2 (d y f), fun x b => ?_⟩;rw [EP k e r l L h.ti.len] at b;rcases QaZ.1 b with q | q;obtain ⟨z, a, rfl⟩ := Qbc.1 q;have := h.ln z (EO a).1;unfold dX; split;exact this.nar;exact this;obtain rfl : x = lz k e r l L := by simpa using q
 rcases EQ k e r l L with z | z;grind;rw [z]; exact c.nar
theorem a25 {its T : List It} {now} l : ∀ {its T : List It}, Rep its now T → Rep (ji l its) now (ji l T) := by
 induction l with
 | nil => exact fun h => h
 | cons p l a => exact fun h => a (h.nar p)
theorem Ly l : ∀ T, (ji l T).length = T.length := by
 induction l with
 | nil => exact fun _ => rfl
 | cons p l a => exact fun T => (a _).trans (Qav _)
theorem a26 l p T : ji (l ++ [p]) T = (ji l T).map (jJ p) := by simp [ji, List.foldl_append]
theorem a27 l : ∀ {T : List It}, (∀ y ∈ T, i64 y.er) → ∀ y ∈ ji l T, i64 y.er := by
 induction l with
 | nil => exact fun h => h
 | cons p l a =>
  intro T h;refine a fun y b => ?_;obtain ⟨z, c, rfl⟩ := Qbc.1 b;exact a05 (h z c)
theorem MOk.er {fr pg d L T} (h : MOk fr pg d L T) {its now} (a : Rep its now T) : ∀ y ∈ its, i64 y.er := fun y b => by
 obtain ⟨x, c, _, e⟩ := h.ti.sub y (a.perm.mem_iff.1 b);have := (h.ln x c).r;have f : y.er = x.e.2.2 := by rw [e]; rfl
 rw [f];exact ⟨by omega, by omega⟩
theorem MOk.ei {fr pg d L T} (h : MOk fr pg d L T) : ∀ x ∈ L, i64 x.e.2.2 := fun x a => by
 have := (h.ln x a).r;exact ⟨by omega, by omega⟩
theorem a28 W0 R (hK : ∀ A, bF (aT W0 A) 1 0 jj) ba bm pv bt bs ps pm on root user va (m : va < 4294967296) kind its room now T L fr pg (hR : Rep its now T) (hT : T.length ≤ room) (hr : room ≤ 4) (hn : now < 1000000) (h : MOk fr pg 0 L T) (hw : WkOkM fr pg root va) (hp : aW pg (cy fr pg root va).p = true) o fast : sP W0 349 [pQ ba, .agg #[iQ (cy fr pg root va).p, iQ (bJ pg (cy fr pg root va).p).1, iQ o, .bool fast]] (pt ba (jv bm on root user va kind) :: pt bm (cX pv bt bs) :: aZ bt (its, dx room now) :: bQ bs L :: ge pv ps pm 0 fr pg R) (fun v B => v = .tuple #[] ∧ ∃ x1 T' L' I, Rep x1 I T' ∧ T'.length ≤ room ∧ MOk fr pg 0 L' T' ∧ I ≤ now + 1 ∧ (∃ x ∈ L', x.k = e7 root va ∧ (x.e.2.2 = iN pg (cy fr pg root va).r (cy fr pg root va).p 3 ∨ x.e.2.2 = iA (iN pg (cy fr pg root va).r (cy fr pg root va).p 3))) ∧ B = pt ba (jv bm on root user va kind) :: pt bm (cX pv bt bs) :: aZ bt (x1, dx room I) :: bQ bs L' :: ge pv ps pm 0 fr pg R) := by
 have D := a24 hw hp;obtain ⟨s, hs⟩ : ∃ s, cy fr pg root va = s := ⟨_, rfl⟩
 rw [hs] at D hp ⊢;obtain ⟨f, hf⟩ : ∃ f, (bJ pg s.p).1 = f := ⟨_, rfl⟩
 obtain ⟨t, W⟩ : ∃ g, iN pg s.r s.p 3 = g := ⟨_, rfl⟩
 rw [hf, W] at D;rw [hf, W];have x6 : i64 t := by
  have : 0 ≤ t ∧ t < 16 := D.r;exact ⟨by omega, by omega⟩
 have x7 : uP s.root = true := Qah D.own.1;have x8 : uP s.leaf = true := Qah D.own.2;have x9 := h.ti.len;have x2 := h.ti.fill (e7 root va) (s.p, f, t) s.root s.leaf room now;have J : l5 (e7 root va) (mh (e7 root va) (s.p, f, t) s.root s.leaf L) = some (lz (e7 root va) (s.p, f, t) s.root s.leaf L) := by
  have hm : lz (e7 root va) (s.p, f, t) s.root s.leaf L ∈ mh (e7 root va) (s.p, f, t) s.root s.leaf L := by grind [EP]
  have := uO x2.keys hm
  rwa [Be] at this
 have X := fun T' q => h.fill (T' := T') room now D q;have Y : (lz (e7 root va) (s.p, f, t) s.root s.leaf L).e.2.2 = t ∨ (lz (e7 root va) (s.p, f, t) s.root s.leaf L).e.2.2 = iA t := by
  rcases EQ (e7 root va) (s.p, f, t) s.root s.leaf L with q | q;grind;rw [q]; exact .inr rfl
 obtain ⟨U, Z⟩ : ∃ l, mh (e7 root va) (s.p, f, t) s.root s.leaf L = l := ⟨_, rfl⟩
 obtain ⟨z, hz⟩ : ∃ z, lz (e7 root va) (s.p, f, t) s.root s.leaf L = z := ⟨_, rfl⟩
 obtain ⟨j, x5⟩ : ∃ l, mg L s.root s.leaf = l := ⟨_, rfl⟩
 rw [Z, hz] at J;rw [hz] at Y;have G := wu J;rw [Z, hz, x5] at X;rw [Z] at x2;have x3 := x2.len;have xj : j.length ≤ 2 := by
  grind [mg]
 have xa := fun l => a25 (its := its) (T := T) l hR;have xb := fun l => Ly l its;have xc := fun l => Ly l T;have xd := fun l => a27 l (h.er hR);have xk := hR.length;refine am func349 ntmps349 ?_;refine fi (kh rfl) fun b3 => ?_;refine au 11 ?_;refine dw (fun H : Nat => True) (fun H => [(0, pQ ba), (3, pQ b3), (4, pQ bm), (5, pQ H)]) (fun H => pt b3 (ag [iQ s.p, iQ f, iQ o, .bool fast] 245) :: pt H (ag (qE s) 402) :: pt ba (jv bm on root user va kind) :: pt bm (cX pv bt bs) :: aZ bt (its, dx room now) :: bQ bs L :: ge pv ps pm 0 fr pg R) ?_ ?_;refine bc [ba, bm] 16 fun b => ?_;refine aj 0 13 b ?_;refine fP (is := [13, 14]) (by kernel_rfl) rfl ⟨?_, ?_, trivial⟩;refine dL (cK NN (DL pv ps pm 0 fr pg h.P h.F root va m)) ?_; clear b;rintro _ C ⟨rfl, d⟩;subst d;rw [hs];refine ⟨aV, fun b => ?_⟩;refine bX 14 (dQ Gm) ?_; clear b;rintro _ _ ⟨H, rfl, rfl⟩;refine ⟨aV, fun b => ?_⟩;refine cj 15 aB fun b => ?_;refine aK ?_;exact bY H trivial;skip;refine dL (dQ Gm) ?_; clear b;rintro _ _ ⟨H, rfl, rfl⟩;refine ⟨aV, fun b => ?_⟩;refine bX 13 (cK NN (DL pv ps pm 0 fr pg h.P h.F root va m)) ?_; clear b;rintro _ C ⟨rfl, d⟩;subst d;rw [hs];refine ⟨aV, fun b => ?_⟩;refine cj 15 aB fun b => ?_;refine aK ?_;exact bY H trivial;intro H _;refine dw (fun V : Nat => True) (fun V => [(0, pQ ba), (3, pQ b3), (4, pQ bm), (5, pQ H), (6, pQ V)]) (fun V => pt V (ag [iQ s.p, iQ f, iQ t] 385) :: pt H (ag (qE s) 402) :: pt ba (jv bm on root user va kind) :: pt bm (cX pv bt bs) :: aZ bt (its, dx room now) :: bQ bs L :: ge pv ps pm 0 fr pg R) ?_ ?_;refine bc [b3, H] 11 fun b => ?_;refine aj 0 6 b ?_;refine az 6 b (dt (uQ (us := [.bool s.on, iQ s.r, iQ s.p]) (ws := [iQ s.fault, iQ s.root, iQ s.leaf]) (j9 (k := 1) rfl) rfl)) ?_;refine fP (is := [7, 9]) (by kernel_rfl) rfl ⟨?_, ?_, trivial⟩;refine dL (cK call387 (L9 hK bm pv bt bs ps pm 0 s.on s.r s.p pg h.P)) ?_; clear b;rintro _ C ⟨rfl, d⟩;subst d;rw [W];refine ⟨aV, fun b => ?_⟩;refine aj 8 1 b ?_;refine bX 9 (dQ oJ) ?_; clear b;rintro _ _ ⟨V, rfl, rfl⟩;refine ⟨aV, fun b => ?_⟩;refine cj 10 aB fun b => ?_;refine aK ?_;exact bY V trivial;skip;refine dL (dQ oJ) ?_; clear b;rintro _ _ ⟨V, rfl, rfl⟩;refine ⟨aV, fun b => ?_⟩;refine bX 7 (cK call387 (L9 hK bm pv bt bs ps pm 0 s.on s.r s.p pg h.P)) ?_; clear b;rintro _ C ⟨rfl, d⟩;subst d;rw [W];refine ⟨aV, fun b => ?_⟩;refine aj 8 1 b ?_;refine cj 10 aB fun b => ?_;refine aK ?_;exact bY V trivial;intro V _;refine aw ?_;refine bc [bm, ba, V, H] 17 fun b => ?_;refine aj 0 5 b ?_;refine aj 6 5 b ?_;refine bG 5 (ao pE (oz ba bm on root user va m kind)) fun b => ?_;refine bX 11 (ao call388 (a1X bs L x9 h.ei (e7 root va) (s.p, f, t) x6 s.root s.leaf x7 x8)) ?_; clear b;rintro _ C ⟨af, cf, rfl, d⟩;subst d;rw [Z, x5];refine ⟨aV, fun b => ?_⟩;refine aj 12 5 b ?_;refine aK ?_;refine ai (fun c5 => ?_) fun c5 => ?_;exact absurd rfl c5;refine gU (fun i : Nat => i ≤ j.length) (fun i => [(0, pQ ba), (4, pQ bm), (57, .slice af j.length cf), (58, iQ (j.length : Nat)), (59, iQ i)]) (fun i => pt ba (jv bm on root user va kind) :: pt bm (cX pv bt bs) :: aZ bt (ji (j.take i) its, dx room now) :: bQ bs U :: osl 3 1 (.slice af j.length cf) (j.flatMap iI) :: ge pv ps pm 0 fr pg R) (fun i => j.length - i) 0 ?_ ?_ ?_ ?_
 omega
 · repeat (first | exact bC | refine bq rfl ?_)
 rw [show ji (j.take 0) its = its from rfl];exact IO;intro i hi;refine aw ?_;refine ai (fun c7 => ?_) fun c7 => ?_;have x4 : i < j.length := by omega
 refine mH (E := 3) (sz := 1) (a := af) (c := cf) (n := j.length) iI j (fun _ => rfl) (by decide) rfl (fun hs => ?_);obtain ⟨g, o, xe, hc⟩ := hs.at_ x4;obtain ⟨q, hq⟩ : ∃ q, j[i] = q := ⟨_, rfl⟩
 have xf : j.take (i + 1) = j.take i ++ [q] := by rw [Qap x4, hq]
 have xg : ji (j.take (i + 1)) its = (ji (j.take i) its).map (jJ q) := by rw [xf, a26]
 have xl := xb (j.take i);have xh := xd (j.take i);rw [hq] at hc;refine aw ?_;refine aa (eR fZ aR rfl xe rfl rfl x4 (by first | exact Qac _ | rfl)) ?_;refine aa (aF (bF.weak hc 0 _ rfl)) ?_;refine ah (ao call389 (a08 bt (ji (j.take i) its) (iQ room) (iQ now) q (by omega) xh)) ?_;refine aa co ?_;refine bM (i + 1) ?_ (he := ?_);omega;rw [xg];exact IO;obtain rfl : i = j.length := by omega
 have x0 := xa (j.take j.length);have xi := xc (j.take j.length);rw [QbH] at x0 xi ⊢;refine bc [bm, ba] 13 fun b => ?_;refine aj 0 5 b ?_;refine fP (is := [5, 10]) (by kernel_rfl) rfl ⟨?_, ?_, trivial⟩;refine dL (ao pE (oz ba bm on root user va m kind)) ?_; clear b;rintro _ C ⟨rfl, d⟩;obtain rfl := d.symm;refine ⟨aV, fun b => ?_⟩;refine fP (is := [6, 10]) (by kernel_rfl) rfl ⟨?_, ?_, trivial⟩;refine dL (ao vn (tA bs U (by omega) (e7 root va))) ?_; clear b;rintro _ C ⟨rfl, d⟩;subst d;rw [tB, J];refine ⟨aV, fun b => ?_⟩;refine aj 7 3 b ?_;refine bX 10 (dQ oJ) ?_; clear b;rintro _ _ ⟨K, rfl, rfl⟩;refine ⟨aV, fun b => ?_⟩;refine cj 11 aB fun b => ?_;refine aj 12 1 b ?_;refine gC ?_;refine aw ?_;refine ai (fun u => ?_) fun u => ?_;refine bc [bm, ba, K] 8 fun b => ?_;refine aj 0 5 b ?_;refine aj 6 1 b ?_;refine bG 5 (ao pE (oz ba bm on root user va m kind)) fun b => ?_;refine bX 7 (ao zD (wo bt (ji j its) room now (ji j T) (e7 root va) z.e x0 (by omega) hr hn)) ?_; clear b;rintro _ C ⟨rfl, w, d, M⟩;subst d;have N := wn (now := now) (k := e7 root va) (e := z.e) (show (ji j T).length ≤ room by omega);refine ⟨aV, fun b => ?_⟩;refine aK ?_;refine aG rfl (cK Od (EZ bm pv bt bs w (iQ room) (iQ ((now + 1 : Nat) : Int)) (now + 1) room _ U M N hr x3)) ?_;rintro _ C ⟨rfl, y, T3, d, O, Q, S⟩;subst d;refine aw ?_;refine bK (.inr rfl) .nil ?_;exact ⟨_, ⟨rfl, y, T3, U, now + 1, O, Q, X T3 S, by omega, ⟨z, G.1, G.2, Y⟩, rfl⟩, IO⟩;exact absurd rfl u;skip;refine dL (dQ oJ) ?_; clear b;rintro _ _ ⟨K, rfl, rfl⟩;refine ⟨aV, fun b => ?_⟩;refine bX 6 (ao vn (tA bs U (by omega) (e7 root va))) ?_; clear b;rintro _ C ⟨rfl, d⟩;subst d;rw [tB, J];refine ⟨aV, fun b => ?_⟩;refine aj 7 3 b ?_;refine cj 11 aB fun b => ?_;refine aj 12 1 b ?_;refine gC ?_;refine aw ?_;refine ai (fun u => ?_) fun u => ?_;refine bc [bm, ba, K] 8 fun b => ?_;refine aj 0 5 b ?_;refine aj 6 1 b ?_;refine bG 5 (ao pE (oz ba bm on root user va m kind)) fun b => ?_;refine bX 7 (ao zD (wo bt (ji j its) room now (ji j T) (e7 root va) z.e x0 (by omega) hr hn)) ?_; clear b;rintro _ C ⟨rfl, w, d, M⟩;subst d;have N := wn (now := now) (k := e7 root va) (e := z.e) (show (ji j T).length ≤ room by omega);refine ⟨aV, fun b => ?_⟩;refine aK ?_;refine aG rfl (cK Od (EZ bm pv bt bs w (iQ room) (iQ ((now + 1 : Nat) : Int)) (now + 1) room _ U M N hr x3)) ?_;rintro _ C ⟨rfl, y, T3, d, O, Q, S⟩;subst d;refine aw ?_;refine bK (.inr rfl) .nil ?_;exact ⟨_, ⟨rfl, y, T3, U, now + 1, O, Q, X T3 S, by omega, ⟨z, G.1, G.2, Y⟩, rfl⟩, IO⟩;exact absurd rfl u;skip;refine dL (dQ oJ) ?_; clear b;rintro _ _ ⟨K, rfl, rfl⟩;refine ⟨aV, fun b => ?_⟩;refine bG 5 (ao pE (oz ba bm on root user va m kind)) fun b => ?_;refine bX 6 (ao vn (tA bs U (by omega) (e7 root va))) ?_; clear b;rintro _ C ⟨rfl, d⟩;subst d;rw [tB, J];refine ⟨aV, fun b => ?_⟩;refine aj 7 3 b ?_;refine cj 11 aB fun b => ?_;refine aj 12 1 b ?_;refine gC ?_;refine aw ?_;refine ai (fun u => ?_) fun u => ?_;refine bc [bm, ba, K] 8 fun b => ?_;refine aj 0 5 b ?_;refine aj 6 1 b ?_;refine bG 5 (ao pE (oz ba bm on root user va m kind)) fun b => ?_
 refine bX 7 (ao zD (wo bt (ji j its) room now (ji j T) (e7 root va) z.e x0 (by omega) hr hn)) ?_; clear b;rintro _ C ⟨rfl, w, d, M⟩;subst d;have N := wn (now := now) (k := e7 root va) (e := z.e) (show (ji j T).length ≤ room by omega);refine ⟨aV, fun b => ?_⟩;refine aK ?_;refine aG rfl (cK Od (EZ bm pv bt bs w (iQ room) (iQ ((now + 1 : Nat) : Int)) (now + 1) room _ U M N hr x3)) ?_;rintro _ C ⟨rfl, y, T3, d, O, Q, S⟩;subst d;refine aw ?_;refine bK (.inr rfl) .nil ?_;exact ⟨_, ⟨rfl, y, T3, U, now + 1, O, Q, X T3 S, by omega, ⟨z, G.1, G.2, Y⟩, rfl⟩, IO⟩;exact absurd rfl u
theorem Fc k va : (64 * k + va % 64) / 64 = k ∧ (64 * k + va % 64) % 64 = va % 64 := by omega
structure FnOk (fr : List aE) (pg : List Pl) (root : Int) (user : Bool) (va : Nat) (kind : Int) : Prop where
  wk : WkOkM fr pg root va
  th : aW pg (cy fr pg root va).p = true
  P : fw oS fr pg true root user va kind = (cy fr pg root va).p
  F : fw m6 fr pg true root user va kind = (bJ pg (cy fr pg root va).p).1
  O : fw m7 fr pg true root user va kind = ((va % 64 : Nat) : Int)
theorem Lz {fr pg root user va kind} (h : gi fr pg true root user va kind = 0) : FnOk fr pg root user va kind := by
 obtain ⟨s, a⟩ : ∃ s, cy fr pg root va = s := ⟨_, rfl⟩
 obtain ⟨k, d, e⟩ := xM fr pg root va;unfold gi at h;rw [Qad rfl, a] at h;by_cases f : s.fault ≠ 0;omega;rw [Qab f] at h;by_cases b : oT s kind user = true
 case neg => rw [Qab b] at h; exact absurd h (by decide)
 rw [Qad b] at h;rw [a] at d;have i : kA s va = 64 * k + va % 64 := by rw [kA, d]; rfl
 obtain ⟨j, l⟩ := Fc k va;have c : aW pg s.p = true := by
  grind [d5, e6]
 have m : ∀ g, fw g fr pg true root user va kind = g fr.length pg (kA s va) 1 kind := fun g => by
  unfold fw;rw [Qad rfl, a, Qab f, Qad b]
 refine ⟨Bl (by grind), by rw [a]; exact c, ?_, ?_, ?_⟩;grind [oS];grind [m6];grind [m7]
theorem a29 {fr pg L T} (h : MOk fr pg 0 L T) {x} (w : x ∈ L) {root user va kind} (y : va < 16384) (hk : x.k = e7 root va) (j : mi x.e kind user = true) :
    gi fr pg true root user va kind = 0 ∧ fw oS fr pg true root user va kind = x.e.1 ∧ fw m6 fr pg true root user va kind = x.e.2.1 ∧ fw m7 fr pg true root user va kind = (va % 64 : Nat) := by
 have d := h.ln x w;obtain ⟨l, H, I, m, n, o⟩ := d.wk (by simp) (by simp) va y (by rw [hk]; rfl);have z : x.k.1 = root := by rw [hk]; rfl
 rw [z] at l m n o;obtain ⟨s, f⟩ : ∃ s, cy fr pg root va = s := ⟨_, rfl⟩
 obtain ⟨k, c, p⟩ := xM fr pg root va;have A : s.fault = 0 := by rw [← f, l.eq]
 rw [f] at m n o c;have g : kA s va = 64 * k + va % 64 := by grind [kA]
 obtain ⟨B, J⟩ := Fc k va;have a : x.e.1 = (k : Int) := by omega
 simp only [mi, Qar, Bool.and_true] at j;obtain ⟨q, C, K⟩ := j;have D : iT kind = 1 ∨ iT kind = 2 ∨ iT kind = 4 ∨ iT kind = 8 := by
  unfold iT;rcases Qas q with rfl | rfl | rfl;omega;omega;omega
 have E : oT s kind user = true := by
  grind [oT]
 have b := d.at_.1;rw [a] at b;have r : k < 12 := by
  simp only [aW, Qar] at b;obtain ⟨i, M, F⟩ := kT b.1;omega
 have N : d5 fr.length pg (kA s va) 1 kind = 0 := by
  unfold d5;rw [g, B, Qad (by grind [eE]), Qad (by omega), Qad (by rw [← a]; exact d.al kind q C), Qad (h.pl.rng _ b)]
 have t : gi fr pg true root user va kind = 0 := by
  grind [gi]
 obtain ⟨_, _, u, v, G⟩ := Lz t;rw [f, c] at u v;exact ⟨t, by rw [u, a], by rw [v, ← d.at_.2, a], G⟩
theorem a3a {S b off k us vs} (h : bF S b off vs) (e : (vs.drop k).take us.length = us) : bF S b (off + k) us := fun i v a => by
 have c := (List.getElem?_eq_some_iff.1 a).1
 have := h (k + i) v (by
   rw [← e, List.getElem?_take] at a;rw [Qad c, Qcl] at a
   exact a)
 rwa [← QbV] at this
theorem a3b (i : ∀ A, bF (aT W0 A) 1 0 jj) ba bm pv bt bs ps pm on root user va (g : va < 4294967296) kind its room now T L fr pg (j : Rep its now T) (l : T.length ≤ room) (m : room ≤ 4) (n : now < 1000000) (h : MOk fr pg 0 L T) (q : WkOkM fr pg root va) (s : aW pg (cy fr pg root va).p = true) p f (t : p = (cy fr pg root va).p) (u : f = (bJ pg (cy fr pg root va).p).1) o fast : sP W0 349 [pQ ba, .agg #[iQ p, iQ f, iQ o, .bool fast]] (pt ba (jv bm on root user va kind) :: pt bm (cX pv bt bs) :: aZ bt (its, dx room now) :: bQ bs L :: ge pv ps pm 0 fr pg R) (fun v B => v = .tuple #[] ∧ ∃ b c d a, Rep b a c ∧ c.length ≤ room ∧ MOk fr pg 0 d c ∧ a ≤ now + 1 ∧ (∃ x ∈ d, x.k = e7 root va ∧ (x.e.2.2 = iN pg (cy fr pg root va).r (cy fr pg root va).p 3 ∨ x.e.2.2 = iA (iN pg (cy fr pg root va).r (cy fr pg root va).p 3))) ∧ B = pt ba (jv bm on root user va kind) :: pt bm (cX pv bt bs) :: aZ bt (b, dx room a) :: bQ bs d :: ge pv ps pm 0 fr pg R) := by
 grind [a28]
theorem a3c W0 R (E : ∀ A, bF (aT W0 A) 1 0 jj) ba bm pv bt bs ps pm root user va (i : va < 4294967296) kind its room now T L fr pg (G : Rep its now T) (H : T.length ≤ room) (I : room ≤ 4) (J : now < 1000000) (h : MOk fr pg 0 L T) :
    bH Tryz.prog W0 308 [pQ ba] (pt ba (jv bm true root user va kind) :: pt bm (cX pv bt bs) :: aZ bt (its, dx room now) :: bQ bs L :: ge pv ps pm 0 fr pg R)
      (fun v B => v = .tuple #[.agg (uA fr pg true root user va kind).toArray, iQ (gi fr pg true root user va kind)] ∧ ∃ g t u b, Rep g b t ∧ t.length ≤ room ∧ MOk fr pg 0 u t ∧ b ≤ now + 1 ∧ (gi fr pg true root user va kind = 0 → ∃ x ∈ u, x.k = e7 root va ∧ (x.e.2.2 = iN pg (cy fr pg root va).r (cy fr pg root va).p 3 ∨ x.e.2.2 = iA (iN pg (cy fr pg root va).r (cy fr pg root va).p 3))) ∧ B = pt bm (cX pv bt bs) :: aZ bt (g, dx room b) :: bQ bs u :: ge pv ps pm 0 fr pg R) := by
 have w := fun q => Lz (fr := fr) (pg := pg) (root := root) (user := user) (va := va) (kind := kind) q;refine am func308 ntmps308 ?_;refine fi (dQ zq) fun s => ?_;refine au 3 ?_;refine dw (fun c : Nat => True) (fun c => [(0, pQ ba), (2, pQ s), (4, pQ c), (5, iQ (gi fr pg true root user va kind))]) (fun c => pt s (ag [iQ 0, iQ 0, iQ 0, .bool false] 245) :: pt c (ag (uA fr pg true root user va kind) 245) :: pt ba (jv bm true root user va kind) :: pt bm (cX pv bt bs) :: aZ bt (its, dx room now) :: bQ bs L :: ge pv ps pm 0 fr pg R) ?_ ?_;refine bc [ba, bm] 26 fun a => ?_;refine aj 0 10 a ?_;refine az 10 a (dt (a3a (k := 1) (us := qF true root user) (j9 (k := 0) rfl) rfl)) ?_;refine aj 11 8 a ?_;refine fP (is := [19, 23]) (by kernel_rfl) rfl ⟨?_, ?_, trivial⟩;refine dL (cK GN (Al pv ps pm 0 fr pg h.P h.F true root user va i kind)) ?_; clear a;rintro _ K ⟨rfl, j⟩;obtain rfl := j.symm;refine ⟨aV, fun a => ?_⟩;refine aj 20 3 a ?_;refine bX 23 (dQ zq) ?_; clear a;rintro _ _ ⟨c, rfl, rfl⟩;refine ⟨aV, fun a => ?_⟩;refine cj 24 aB fun a => ?_;refine aj 25 1 a ?_;refine aK ?_;exact bY c trivial;skip;refine dL (dQ zq) ?_; clear a;rintro _ _ ⟨c, rfl, rfl⟩;refine ⟨aV, fun a => ?_⟩;refine bG 19 (cK GN (Al pv ps pm 0 fr pg h.P h.F true root user va i kind)) fun a => ?_;refine aj 20 3 a ?_;refine cj 24 aB fun a => ?_;refine aj 25 1 a ?_;refine aK ?_;exact bY c trivial;intro c _;refine dw (fun X : List It × List It × List Ln × Nat => Rep X.1 X.2.2.2 X.2.1 ∧ X.2.1.length ≤ room ∧ MOk fr pg 0 X.2.2.1 X.2.1 ∧ X.2.2.2 ≤ now + 1 ∧ (gi fr pg true root user va kind = 0 → ∃ x ∈ X.2.2.1, x.k = e7 root va ∧ (x.e.2.2 = iN pg (cy fr pg root va).r (cy fr pg root va).p 3 ∨ x.e.2.2 = iA (iN pg (cy fr pg root va).r (cy fr pg root va).p 3)))) (fun X => [(2, pQ s), (4, pQ c), (5, iQ (gi fr pg true root user va kind))]) (fun X => pt s (ag [iQ 0, iQ 0, iQ 0, .bool false] 245) :: pt c (ag (uA fr pg true root user va kind) 245) :: pt bm (cX pv bt bs) :: aZ bt (X.1, dx room X.2.2.2) :: bQ bs X.2.2.1 :: ge pv ps pm 0 fr pg R) ?_ ?_;refine au 6 ?_;refine ai (fun D => ?_) fun D => ?_;obtain ⟨M, N, O, Q, S⟩ := w D;refine aG rfl (J1 call349 rfl (a3b E ba bm pv bt bs ps pm true root user va i kind its room now T L fr pg G H I J h M N (fw oS fr pg true root user va kind) (fw m6 fr pg true root user va kind) O Q (fw m7 fr pg true root user va kind) false)) ?_;rintro _ K ⟨rfl, d, y, z, f, l, m, C, n, o, j⟩;subst j;refine aw ?_;refine bY (d, y, z, f) ?_;grind;refine bY (its, T, L, now) ?_;grind;intro ⟨d, y, z, f⟩ ⟨l, m, C, n, o⟩;dsimp only at l m C n o ⊢;refine aw ?_;refine av aB ?_;refine aS (.cons (aX dS dG rfl rfl) (.cons (aN rfl) .nil)) ?_;exact ⟨_, ⟨rfl, d, y, z, f, l, m, C, n, o, rfl⟩, IO⟩
theorem MOk.tl {fr pg d L T T'} (h : MOk fr pg d L T) (a : TI L T') : MOk fr pg d L T' := ⟨h.F, h.dl, h.P, h.pl, a, h.ln⟩
@[reducible] def wD (ba : Nat) : List Value := [.func (.func 306) #[.pointer (some ⟨ba, 0, none⟩)] #[], .func (.func 307) #[.pointer (some ⟨ba, 0, none⟩)] #[]]
theorem a3d {W0 N e R ba bm pv bt bs on root user va kind its room now i T L fx v} (d : va < 4294967296) (m : Rep its now T) (n : T.length ≤ room) (p : room ≤ 4) (r : now < 1000000) (f : TI L T) (y : i < 2) (s : (wD ba)[i]? = some v) (t : ev e fx = some v) :
    df Tryz.prog W0 N e (pt ba (jv bm on root user va kind) :: pt bm (cX pv bt bs) :: aZ bt (its, dx room now) :: bQ bs L :: R) (.call { callee := .value fx, args := #[], argTypes := #[] })
      (fun v B => ∃ o b c a, v = .tuple #[.agg (F1 o va).toArray, .bool o.isSome] ∧ F2 L (e7 root va) kind user o ∧ (i = 1 → o = none → ∀ x ∈ L, x.k = e7 root va → mi x.e kind user = false) ∧ Rep b a c ∧ c.length ≤ room ∧ TI L c ∧ a ≤ now + 1 ∧ B = pt ba (jv bm on root user va kind) :: pt bm (cX pv bt bs) :: aZ bt (b, dx room a) :: bQ bs L :: R) := by
 have u : i = 0 ∨ i = 1 := by omega
 rcases u with rfl | rfl;cases s
 exact jp (us := [pQ ba]) (vs := []) (cs := []) t call306 rfl (iH (a2b ba bm pv bt bs on root user va d kind its room now T L m n p r f) fun v B g => by
  obtain ⟨o, b, c, a, h, j, l⟩ := g
  exact ⟨B, ⟨o, b, c, a, h, j, fun q => (by cases q), l⟩, ent_refl⟩)
 cases s
 exact jp (us := [pQ ba]) (vs := []) (cs := []) t call307 rfl (iH (a2c ba bm pv bt bs on root user va d kind its room now T L m n p r f) fun v B g => by
  obtain ⟨o, b, c, a, h, j, l, w⟩ := g
  exact ⟨B, ⟨o, b, c, a, h, j, fun _ => l, w⟩, ent_refl⟩)
structure FnX (fr : List aE) (pg : List Pl) (d : Nat) (on : Bool) (root : Int) (user : Bool) (va : Nat) (kind : Int) (L L' : List Ln) (fast : Bool) (d' : Nat) : Prop where
  hit : fast = true → (on = true ∧ gi fr pg on root user va kind = 0) ∧ ∃ x ∈ L', x.e.1 = fw oS fr pg on root user va kind ∧ mi x.e kind user = true
  old : fast = true → ∃ x ∈ L, x.k = e7 root va
  new : fast = false → on = true → va < 16384 → gi fr pg on root user va kind = 0 → ∃ x ∈ L', x.k = e7 root va ∧ (x.e.2.2 = iN pg (cy fr pg root va).r (cy fr pg root va).p 3 ∨ x.e.2.2 = iA (iN pg (cy fr pg root va).r (cy fr pg root va).p 3))
  can : d = 0 → on = true → va < 16384 → ∀ x ∈ L, x.k = e7 root va → mi x.e kind user = true → fast = true
  dz : on = true → va < 16384 → d' = 0
theorem LA (hK : ∀ A, bF (aT W0 A) 1 0 jj) bm pv bt bs ps pm d on root user (va : Nat) (g : va < 4294967296) kind its room now T L fr pg (hR : Rep its now T) (hT : T.length ≤ room) (hr : room ≤ 4) (hn : now < 900000) (h : MOk fr pg d L T) : sP W0 235 [.pointer (some ⟨bm, 0, none⟩), .agg (qF on root user).toArray, .int .u32 va, .int .i64 kind] (pt bm (cX pv bt bs) :: aZ bt (its, dx room now) :: bQ bs L :: ge pv ps pm d fr pg R) (fun v B => ∃ j l T' L' b d', v = .tuple #[.agg #[.int .i64 (fw oS fr pg on root user va kind), .int .i64 (fw m6 fr pg on root user va kind), .int .i64 (fw m7 fr pg on root user va kind), .bool j], .int .i64 (gi fr pg on root user va kind)] ∧ FnX fr pg d on root user va kind L L' j d' ∧ Rep l b T' ∧ T'.length ≤ room ∧ MOk fr pg d' L' T' ∧ b ≤ now + 3 ∧ B = pt bm (cX pv bt bs) :: aZ bt (l, dx room b) :: bQ bs L' :: ge pv ps pm d' fr pg R) := by
 refine jq 2 func235 ntmps235 ?_;refine fi (kh rfl) fun b5 => ?_;refine fi (dQ zq) fun W => ?_;refine au 7 ?_;refine ew 2 (iZ CJ rfl (yA bm pv bt bs)) ?_;refine aD rfl (fun c1 => ?_) fun c1 => ?_;exact absurd c1 (by decide);refine au 9 ?_;refine dj rfl rfl rfl (fun D => ?_) fun D => ?_;refine au 6 ?_;refine eV [(bm, 0, _), (b5, 0, _)] 12 mixed rfl (bL (bL bE)) (fun a => ?_);refine aj 0 4 a ?_;refine bu 4 rfl rfl rfl a (gK C7 wP rfl (by first | exact j9 (k := 0) rfl | exact j9 (k := 1) rfl) rfl) ?_;refine aj 5 2 a ?_;refine gB 7 rfl rfl (vz GN rfl (Al pv ps pm d fr pg h.P h.F on root user va g kind)) (bL (bL bE)) fun a => ?_;refine aj 8 2 a ?_;refine kv 10 rfl rfl (fM dG rfl rfl rfl rfl rfl) (bL (bL bE)) fun a => ?_;refine aj 11 1 a ?_;refine gC ?_;refine au 3 ?_;refine aS (.cons (aX dS dG rfl rfl) (.cons (aN rfl) .nil)) ?_;exact ⟨_, ⟨false, its, T, L, now, d, rfl, ⟨fun q => (by cases q), fun q => (by cases q), fun _ E G => (by first | omega | simp_all), fun _ E G => (by first | omega | simp_all), fun E G => (by first | omega | simp_all)⟩, hR, hT, h, by omega, rfl⟩, IO⟩;refine au 6 ?_;refine aD rfl (fun c3 => ?_) fun c3 => ?_;refine aQ ?_;refine eV [(bm, 0, _), (b5, 0, _)] 12 mixed rfl (bL (bL bE)) (fun a => ?_);refine aj 0 4 a ?_;refine bu 4 rfl rfl rfl a (gK C7 wP rfl (by first | exact j9 (k := 0) rfl | exact j9 (k := 1) rfl) rfl) ?_;refine aj 5 2 a ?_;refine gB 7 rfl rfl (vz GN rfl (Al pv ps pm d fr pg h.P h.F on root user va g kind)) (bL (bL bE)) fun a => ?_;refine aj 8 2 a ?_;refine kv 10 rfl rfl (fM dG rfl rfl rfl rfl rfl) (bL (bL bE)) fun a => ?_;refine aj 11 1 a ?_;refine gC ?_;refine au 3 ?_;refine aS (.cons (aX dS dG rfl rfl) (.cons (aN rfl) .nil)) ?_;exact ⟨_, ⟨false, its, T, L, now, d, rfl, ⟨fun q => (by cases q), fun q => (by cases q), fun _ E G => (by first | omega | simp_all), fun _ E G => (by first | omega | simp_all), fun E G => (by first | omega | simp_all)⟩, hR, hT, h, by omega, rfl⟩, IO⟩;refine au 3 ?_;obtain rfl : on = true := by cases on <;> simp_all
 have x0 : va < 16384 := by omega
 refine au 2 ?_;refine aG rfl (mG Oe rfl (L6 bm pv bt bs ps pm d its (.int .i64 room) (.int .i64 now) now room T L fr pg hR hT hr h)) ?_;rintro _ B_ ⟨rfl, m, T1, n, c, x1, x2, Y, H, u⟩;subst c;have x3 : d = 0 → n = L := fun q => u (by rw [q]; decide);refine au 8 ?_;refine ac rfl (fB a7K zeroValue420 (aL Nc (aL wP (aL aU (aL aR fA)))) (bW rfl Nc rfl rfl (Qaa rfl) SetL.eq (kj rfl wP rfl rfl (Qaa rfl) SetRL.eq (bW rfl aU rfl rfl (Qaa rfl) SetL.eq (bW rfl aR rfl rfl (Qaa rfl) SetL.eq fz))))) ?_;refine fi (kh rfl) fun f => ?_;refine au 7 ?_;refine ac rfl (xp rfl rfl) ?_;refine ac rfl (aM rfl) (ac rfl (xp rfl rfl) ?_);refine fi (kl Nv sizeOf421 zeroValue421 rfl rfl rfl rfl rfl (by decide) (by decide)) fun Z => ?_;refine au 5 ?_;refine gU (fun X : Nat × List It × List It × Nat => X.1 ≤ 2 ∧ Rep X.2.1 X.2.2.2 X.2.2.1 ∧ X.2.2.1.length ≤ room ∧ TI n X.2.2.1 ∧ X.2.2.2 ≤ now + X.1 ∧ (X.1 = 2 → ∀ x ∈ n, x.k = e7 root va → mi x.e kind user = false)) (fun X => [(8, .pointer (some ⟨W, 0, none⟩)), (10, .pointer (some ⟨f, 0, none⟩)), (47, .slice (some ⟨Z, 0, none⟩) 2 2), (48, .int .i64 2), (49, .int .i64 X.1)]) (fun X => pt Z (ag (wD f) 421) :: pt W (ag [.int .i64 0, .int .i64 0, .int .i64 0, .bool false] 245) :: pt f (jv bm true root user va kind) :: pt bm (cX pv bt bs) :: aZ bt (X.2.1, dx room X.2.2.2) :: bQ bs n :: ge pv ps pm 0 fr pg R) (fun X => 2 - X.1) (0, m, T1, now) ?_ ?_ ?_ ?_;exact ⟨QaK _, x1, x2, Y.ti, Qao _, fun q => absurd (show (0 : Nat) = 2 from q) (by decide)⟩
 · repeat (first | exact bC | refine bq rfl ?_)
 show Ent _ (pt Z (ag (wD f) 421) :: pt W (ag [.int .i64 0, .int .i64 0, .int .i64 0, .bool false] 245) :: pt f (jv bm true root user va kind) :: pt bm (cX pv bt bs) :: aZ bt (m, dx room now) :: bQ bs n :: ge pv ps pm 0 fr pg R);exact IO;intro ⟨i, p, T2, I⟩ ⟨hi, w, y, z, x4, r⟩;dsimp only at hi w y z x4 r ⊢;refine au 6 ?_;refine aD rfl (fun c8 => ?_) fun c8 => ?_;refine au 5 ?_;have C : i < 2 := by omega
 have x5 : i < (wD f).length := C;obtain ⟨fv, J⟩ : ∃ v, (wD f)[i]? = some v := ⟨_, QaR x5⟩
 refine aY ?_;refine ac rfl (iF Nv sizeOf421 rfl rfl rfl C (by first | exact Qac _ | rfl)) ?_;refine iS 6 (cg isAgg421 rfl (aJ (by rw [QaA]; exact J))) ?_;refine aG rfl (rD inferInstance (a3d (R := pt Z (ag (wD f) 421) :: pt W (ag [.int .i64 0, .int .i64 0, .int .i64 0, .bool false] 245) :: ge pv ps pm 0 fr pg R) (ba := f) (bm := bm) (pv := pv) (bt := bt) (bs := bs) (on := true) (root := root) (user := user) (kind := kind) (its := p) (L := n) g w y hr (by omega) z C J rfl)) ?_;rintro _ B_ ⟨o, s, T3, t, rfl, x6, x7, K, M, N, xc, c⟩;subst c;refine au 3 ?_;refine fi (dQ zq) fun xd => ?_;refine jb 8 (fM dG rfl rfl rfl rfl rfl) ?_;refine aD rfl (fun x8 => ?_) fun x8 => ?_;refine au 3 ?_;refine jb 9 (fM dG rfl rfl rfl rfl rfl) ?_;refine aS (.cons (aX dS dG rfl rfl) (.cons (aN rfl) .nil)) ?_;obtain ⟨x, rfl⟩ : ∃ x, o = some x := by cases o <;> simp_all
 obtain ⟨O, Q, S⟩ := x6 x rfl;obtain ⟨e0, e1, e2, e3⟩ := a29 Y O x0 Q S;refine ⟨_, ⟨true, s, T3, n, t, 0, ?_, ⟨fun _ => ⟨⟨rfl, e0⟩, x, O, e1.symm, S⟩, fun _ => ⟨x, H x O, Q⟩, fun q => (by cases q), fun _ _ _ _ _ _ _ => rfl, fun _ _ => rfl⟩, K, M, Y.tl N, by omega, rfl⟩, IO⟩;rw [e0, e1, e2, e3]; rfl;refine au 4 ?_;refine iS 3 (OZ rfl rfl) ?_;exact bM (i + 1, s, T3, t) (⟨by omega, K, M, N, by dsimp only; omega, fun q => x7 (by dsimp only at q; omega) (by cases o <;> simp_all)⟩);refine au 6 ?_;obtain rfl : i = 2 := by omega
 have h2 := Y.tl z;refine au 2 ?_;refine aG rfl (J1 call308 rfl (a3c W0 _ hK f bm pv bt bs ps pm root user va g kind p room I T2 n fr pg w y hr (by omega) h2)) ?_;rintro _ B_ ⟨rfl, U, T4, L4, V, x9, xa, h4, xe, xb, c⟩;subst c;refine au 2 ?_;refine jb 4 (fM dG rfl rfl rfl rfl rfl) ?_;refine aS (.cons (aX dS dG rfl rfl) (.cons (aN rfl) .nil)) ?_
 exact ⟨_, ⟨false, U, T4, L4, V, 0, rfl, ⟨fun q => (by cases q), fun q => (by cases q), fun _ _ _ q => xb q, fun q _ _ x O hk hm => (by
   rw [r rfl x (by rw [x3 q]; exact O) hk] at hm; cases hm), fun _ _ => rfl⟩, x9, xa, h4, by omega, rfl⟩, IO⟩
theorem LB {fr pg on root user va kind} (h : gi fr pg on root user va kind = 0) :
    ∃ b, b < 768 ∧ b % 64 = va % 64 ∧ d5 fr.length pg b 1 kind = 0 ∧ fw oS fr pg on root user va kind = (b / 64 : Nat) ∧ fw m6 fr pg on root user va kind = (bJ pg (b / 64 : Nat)).1 ∧ fw m7 fr pg on root user va kind = (b % 64 : Nat) := by
 cases on with
 | false =>
  have a : ∀ g, fw g fr pg false root user va kind = g fr.length pg va 1 kind := fun g => by unfold fw; rw [Qab (by decide)]
  have h : d5 fr.length pg va 1 kind = 0 := by grind [gi]
  exact ⟨va, (xE h).1, rfl, h, by rw [a, oS, Qad h], by rw [a, m6, Qad h], by rw [a, m7, Qad h]⟩
 | true =>
  obtain ⟨s, c⟩ : ∃ s, cy fr pg root va = s := ⟨_, rfl⟩
  obtain ⟨k, f, i⟩ := xM fr pg root va;unfold gi at h;rw [Qad rfl, c] at h;by_cases j : s.fault ≠ 0;omega;rw [Qab j] at h;by_cases d : oT s kind user = true
  case neg => rw [Qab d] at h; exact absurd h (by decide)
  rw [Qad d] at h;rw [c] at f;have e : kA s va = 64 * k + va % 64 := by rw [kA, f]; rfl
  obtain ⟨m, l⟩ := Fc k va;have a : ∀ g, fw g fr pg true root user va kind = g fr.length pg (kA s va) 1 kind := fun g => by
   unfold fw;rw [Qad rfl, c, Qab j, Qad d]
  exact ⟨kA s va, (xE h).1, by rw [e, l], h, by rw [a, oS, Qad h], by rw [a, m6, Qad h], by rw [a, m7, Qad h]⟩
theorem a9E {va pa w} (h : eE va w = true) (e : pa % 64 = va % 64) : eE pa w = true := by
 have := Qas h;refine Qah ⟨this.1, ?_⟩;obtain ⟨a | a | a, b⟩ := this <;> subst a <;> omega
theorem a3e {n pg va pa w kind} (h : d5 n pg pa 1 kind = 0) (a : eE va w = true) (e : pa % 64 = va % 64) : d5 n pg pa w kind = 0 := by
 grind [eE, d5]
theorem LC {n pg pa kind} (h : d5 n pg pa 1 kind = 0) : aW pg (pa / 64 : Nat) = true := by
 grind [eE, d5, e6]
def pp (fr : List aE) (pg : List Pl) (on : Bool) (root : Int) (user : Bool) (va : Nat) (w kind : Int) : Nat := if eE va w then (if gi fr pg on root user va kind = 0 then kx fr (fw m6 fr pg on root user va kind) (fw m7 fr pg on root user va kind) w else 0) else 0
def lQ (fr : List aE) (pg : List Pl) (on : Bool) (root : Int) (user : Bool) (va : Nat) (w kind : Int) : Int := if eE va w then gi fr pg on root user va kind else 1
def lR (fr : List aE) (pg : List Pl) (on : Bool) (root : Int) (user : Bool) (va : Nat) (w : Int) (x : Nat) : List aE := if eE va w then (if gi fr pg on root user va 2 = 0 then g6 fr (fw m6 fr pg on root user va 2) (fw m7 fr pg on root user va 2) w x else fr) else fr
theorem LD (va : Nat) (d : va < 4294967296) w : sQ W0 234 [.int .u32 va, iQ w] R (.bool (eE va w)) R := by
 refine am func234 ntmps234 ?_;refine cv (fun b => ?_) fun b => ?_;refine aa (bD (cZ (by omega))) ?_;refine aa (dV rfl rfl (by omega) (Qan (by omega))) ?_;refine ae ?_;refine aI ?_;refine Qak Value.bool ?_;rw [Qag]; simp only [eE, Qai, Qba]
 first
   | omega
   | (simp only [Qaq, QaU]; omega)
   | (constructor <;> intro q <;> simp_all <;> omega)
 refine cv (fun c => ?_) fun c => ?_;refine aa (bD (cZ (by omega))) ?_;refine aa (dV rfl rfl (by omega) (Qan (by omega))) ?_;refine ae ?_;refine aI ?_;refine Qak Value.bool ?_;rw [Qag]; simp only [eE, Qai, Qba]
 first
   | omega
   | (simp only [Qaq, QaU]; omega)
   | (constructor <;> intro q <;> simp_all <;> omega)
 refine ci (fun a => ?_) fun a => ?_;refine aa (bD (cZ (by omega))) ?_;refine aa (dV rfl rfl (by omega) (Qan (by omega))) ?_;refine ae ?_;refine aI ?_;refine Qak Value.bool ?_;rw [Qag]; simp only [eE, Qai, Qba]
 first
   | omega
   | (simp only [Qaq, QaU]; omega)
   | (constructor <;> intro q <;> simp_all <;> omega)
 refine ae ?_;refine aI ?_;refine Qak Value.bool ?_;rw [Qag]; simp only [eE, Qai, Qba]
 first
   | omega
   | (simp only [Qaq, QaU]; omega)
   | (constructor <;> intro q <;> simp_all <;> omega)
theorem LE qv qs qm d fr pg (h : Pgs pg) (l : cC fr) on root user (va : Nat) (j : va < 4294967296) w kind : sQ W0 152 [pQ qv, .agg (qF on root user).toArray, .int .u32 va, iQ w, iQ kind] (eB qv qs qm d fr pg R) (.tuple #[.int .u32 (pp fr pg on root user va w kind), iQ (lQ fr pg on root user va w kind)]) (eB qv qs qm d fr pg R) := by
 obtain ⟨g, p⟩ : ∃ a, eE va w = a := ⟨_, rfl⟩
 have c : g = true ↔ (w = 1 ∨ w = 2 ∨ w = 4) ∧ (va : Int) % w = 0 := by grind [eE]
 rw [pp, lQ, p];refine am func152 ntmps152 ?_;refine bA fun q => ?_;refine ci (fun m => ?_) fun m => ?_;refine ci (fun n => ?_) fun n => ?_;refine cv (fun k => ?_) fun k => ?_;refine aA ?_;have b : g = false := by grind
 exact ⟨_, ⟨by rw [b]; rfl, rfl⟩, IO⟩;refine aa (bD (cZ (by omega))) ?_;refine aa (dV rfl rfl (by omega) (Qan (by omega))) ?_;refine ai (fun o => ?_) fun o => ?_;refine aA ?_;have b : g = false := by grind
 exact ⟨_, ⟨by rw [b]; rfl, rfl⟩, IO⟩;have b : g = true := c.2 (by omega);rw [b, Qad rfl, Qad rfl];refine ah (cK zH (vS qv qs qm d fr pg h l on root user va j kind)) ?_;refine bi fun e => ?_;refine av aB ?_;refine ai (fun i => ?_) fun i => ?_;refine aA ?_;rw [Qab i];exact ap;rw [Qad (by omega)];refine bc [qv, e] 15 fun f => ?_;refine aj 0 9 f ?_;refine bG 9 (ao Gv (Ac qs fr _ _ w l)) fun f => ?_;refine aj 10 5 f ?_;refine aK ?_;refine aA ?_;exact ⟨_, ⟨by rw [show gi fr pg on root user va kind = 0 by omega] <;> rfl, rfl⟩, IO⟩;refine aa (bD (cZ (by omega))) ?_;refine aa (dV rfl rfl (by omega) (Qan (by omega))) ?_;refine ai (fun o => ?_) fun o => ?_;refine aA ?_;have b : g = false := by grind
 exact ⟨_, ⟨by rw [b]; rfl, rfl⟩, IO⟩;have b : g = true := c.2 (by omega);rw [b, Qad rfl, Qad rfl];refine ah (cK zH (vS qv qs qm d fr pg h l on root user va j kind)) ?_;refine bi fun e => ?_;refine av aB ?_;refine ai (fun i => ?_) fun i => ?_;refine aA ?_;rw [Qab i];exact ap;rw [Qad (by omega)];refine bc [qv, e] 15 fun f => ?_;refine aj 0 9 f ?_;refine bG 9 (ao Gv (Ac qs fr _ _ w l)) fun f => ?_;refine aj 10 5 f ?_;refine aK ?_;refine aA ?_;exact ⟨_, ⟨by rw [show gi fr pg on root user va kind = 0 by omega] <;> rfl, rfl⟩, IO⟩;refine aa (bD (cZ (by omega))) ?_;refine aa (dV rfl rfl (by omega) (Qan (by omega))) ?_;refine ai (fun o => ?_) fun o => ?_;refine aA ?_;have b : g = false := by grind
 exact ⟨_, ⟨by rw [b]; rfl, rfl⟩, IO⟩;have b : g = true := c.2 (by omega);rw [b, Qad rfl, Qad rfl];refine ah (cK zH (vS qv qs qm d fr pg h l on root user va j kind)) ?_;refine bi fun e => ?_;refine av aB ?_;refine ai (fun i => ?_) fun i => ?_;refine aA ?_;rw [Qab i];exact ap;rw [Qad (by omega)];refine bc [qv, e] 15 fun f => ?_;refine aj 0 9 f ?_;refine bG 9 (ao Gv (Ac qs fr _ _ w l)) fun f => ?_;refine aj 10 5 f ?_;refine aK ?_;refine aA ?_;exact ⟨_, ⟨by rw [show gi fr pg on root user va kind = 0 by omega] <;> rfl, rfl⟩, IO⟩
theorem a3f qv qs qm d fr pg (h : Pgs pg) (l : cC fr) on root user (va : Nat) (j : va < 4294967296) w (x : Nat) (p : x < 4294967296) : sQ W0 228 [pQ qv, .agg (qF on root user).toArray, .int .u32 va, iQ w, .int .u32 x] (eB qv qs qm d fr pg R) (iQ (lQ fr pg on root user va w 2)) (eB qv qs qm d (lR fr pg on root user va w x) pg R) := by
 obtain ⟨g, q⟩ : ∃ a, eE va w = a := ⟨_, rfl⟩
 have c : g = true ↔ (w = 1 ∨ w = 2 ∨ w = 4) ∧ (va : Int) % w = 0 := by grind [eE]
 rw [lR, lQ, q];refine am func228 ntmps228 ?_;refine bA fun r => ?_;refine ci (fun m => ?_) fun m => ?_;refine ci (fun n => ?_) fun n => ?_;refine cv (fun k => ?_) fun k => ?_;refine ae ?_;have b : g = false := by grind
 rw [b, Qab (by decide), Qab (by decide)];exact ap;refine aa (bD (cZ (by omega))) ?_;refine aa (dV rfl rfl (by omega) (Qan (by omega))) ?_;refine ai (fun o => ?_) fun o => ?_;refine ae ?_;have b : g = false := by grind
 rw [b, Qab (by decide), Qab (by decide)];exact ap;have b : g = true := c.2 (by omega);rw [b, Qad rfl, Qad rfl];refine ah (cK zH (vS qv qs qm d fr pg h l on root user va j 2)) ?_;refine bi fun e => ?_;refine jb 3 aB ?_;refine dw (fun _ : Unit => True) (fun _ => [(12, iQ (gi fr pg on root user va 2))]) (fun _ => eB qv qs qm d (if gi fr pg on root user va 2 = 0 then g6 fr (fw m6 fr pg on root user va 2) (fw m7 fr pg on root user va 2) w x else fr) pg R) ?_ ?_;refine au 6 ?_;refine ai (fun f => ?_) fun f => ?_;refine bc [qv, e] 11 fun i => ?_;refine aj 0 10 i ?_;refine bG 10 (ao Cq (xG qs fr _ _ w x p l)) fun i => ?_;refine aK ?_;refine bY () ?_ (he := ?_);trivial;rw [Qad f];exact IO;refine bY () ?_ (he := ?_);trivial;rw [Qab f];exact IO;intro _ _;refine aw ?_;exact ae ap;refine aa (bD (cZ (by omega))) ?_;refine aa (dV rfl rfl (by omega) (Qan (by omega))) ?_;refine ai (fun o => ?_) fun o => ?_;refine ae ?_;have b : g = false := by grind
 rw [b, Qab (by decide), Qab (by decide)];exact ap;have b : g = true := c.2 (by omega);rw [b, Qad rfl, Qad rfl];refine ah (cK zH (vS qv qs qm d fr pg h l on root user va j 2)) ?_;refine bi fun e => ?_;refine jb 3 aB ?_;refine dw (fun _ : Unit => True) (fun _ => [(12, iQ (gi fr pg on root user va 2))]) (fun _ => eB qv qs qm d (if gi fr pg on root user va 2 = 0 then g6 fr (fw m6 fr pg on root user va 2) (fw m7 fr pg on root user va 2) w x else fr) pg R) ?_ ?_;refine au 6 ?_;refine ai (fun f => ?_) fun f => ?_;refine bc [qv, e] 11 fun i => ?_;refine aj 0 10 i ?_;refine bG 10 (ao Cq (xG qs fr _ _ w x p l)) fun i => ?_;refine aK ?_;refine bY () ?_ (he := ?_);trivial;rw [Qad f];exact IO;refine bY () ?_ (he := ?_);trivial;rw [Qab f];exact IO;intro _ _;refine aw ?_;exact ae ap;refine aa (bD (cZ (by omega))) ?_;refine aa (dV rfl rfl (by omega) (Qan (by omega))) ?_;refine ai (fun o => ?_) fun o => ?_;refine ae ?_;have b : g = false := by grind
 rw [b, Qab (by decide), Qab (by decide)];exact ap;have b : g = true := c.2 (by omega);rw [b, Qad rfl, Qad rfl];refine ah (cK zH (vS qv qs qm d fr pg h l on root user va j 2)) ?_;refine bi fun e => ?_;refine jb 3 aB ?_;refine dw (fun _ : Unit => True) (fun _ => [(12, iQ (gi fr pg on root user va 2))]) (fun _ => eB qv qs qm d (if gi fr pg on root user va 2 = 0 then g6 fr (fw m6 fr pg on root user va 2) (fw m7 fr pg on root user va 2) w x else fr) pg R) ?_ ?_;refine au 6 ?_;refine ai (fun f => ?_) fun f => ?_;refine bc [qv, e] 11 fun i => ?_;refine aj 0 10 i ?_;refine bG 10 (ao Cq (xG qs fr _ _ w x p l)) fun i => ?_;refine aK ?_;refine bY () ?_ (he := ?_);trivial;rw [Qad f];exact IO;refine bY () ?_ (he := ?_);trivial;rw [Qab f];exact IO;intro _ _;refine aw ?_;exact ae ap
theorem a3g W0 R (I : ∀ A, bF (aT W0 A) 1 0 jj) bm pv bt bs ps pm d on root user (va : Nat) (g : va < 4294967296) w kind its room now T L fr pg (t : Rep its now T) (u : T.length ≤ room) (J : room ≤ 4) (K : now < 900000) (h : MOk fr pg d L T) :
    bH Tryz.prog W0 163 [pQ bm, .agg (qF on root user).toArray, .int .u32 va, iQ w, iQ kind] (pt bm (cX pv bt bs) :: aZ bt (its, dx room now) :: bQ bs L :: ge pv ps pm d fr pg R)
      (fun v B => v = .tuple #[.int .u32 (pp fr pg on root user va w kind), iQ (lQ fr pg on root user va w kind)] ∧ ∃ c n x b y, Rep c b n ∧ n.length ≤ room ∧ MOk fr pg y x n ∧ b ≤ now + 3 ∧ B = pt bm (cX pv bt bs) :: aZ bt (c, dx room b) :: bQ bs x :: ge pv ps pm y fr pg R) := by
 obtain ⟨z, i⟩ : ∃ a, eE va w = a := ⟨_, rfl⟩
 rw [pp, lQ, i];refine am func163 ntmps163 ?_;refine bA fun N => ?_;refine ah (ao CJ (yA bm pv bt bs)) ?_;refine ah (aC call234 (LD va g w)) ?_;rw [i];refine ai (fun M => ?_) fun M => ?_;refine aA ?_;have o : z = false := by grind
 rw [o, Qab (by decide), Qab (by decide)];exact ⟨_, ⟨rfl, its, T, L, now, d, t, u, h, by omega, rfl⟩, IO⟩;have o : z = true := by grind
 rw [o, Qad rfl, Qad rfl];refine aG rfl (qy call235 rfl (LA I bm pv bt bs ps pm d on root user va g kind its room now T L fr pg t u J K h)) ?_;rintro _ O ⟨C, e, D, E, f, p, rfl, q, j, k, G, l, r⟩;subst r;refine aw ?_;refine bi fun s => ?_;refine av aB ?_;refine ai (fun H => ?_) fun H => ?_;refine aA ?_;rw [Qab H];exact ⟨_, ⟨rfl, e, D, E, f, p, j, k, G, l, rfl⟩, IO⟩;rw [Qad (by omega)];refine bc [bm, s] 16 fun m => ?_;refine aj 0 4 m ?_;refine aj 5 5 m ?_;refine bG 4 (ao GO (Aa pv ps pm p)) fun m => ?_;refine bG 10 (ao call236 (Ii ps fr _ _ w h.F)) fun m => ?_;refine aj 11 5 m ?_;refine aK ?_;refine aA ?_;exact ⟨_, ⟨by rw [show gi fr pg on root user va kind = 0 by omega] <;> rfl, e, D, E, f, p, j, k, G, l, rfl⟩, IO⟩
theorem a3h {n : Nat} (h : n < 16) (b : eQ n 2 = true) : wB n = true := by
 have a : ∀ n : Nat, n < 16 → eQ (n : Int) 2 = true → wB (n : Int) = true := by decide +kernel
 exact a n h b
theorem Bs {d p t} (h : Nat.testBit (d ||| 2 ^ p) t = false) : Nat.testBit d t = false ∧ t ≠ p := by
 grind
theorem a3i W0 R (hK : ∀ A, bF (aT W0 A) 1 0 jj) bm pv bt bs ps pm d on root user (va : Nat) (G : va < 4294967296) w (x : Nat) (hx : x < 4294967296) its room now T L fr pg (hR : Rep its now T) (hT : T.length ≤ room) (hr : room ≤ 4) (S : now < 900000) (h : MOk fr pg d L T) :
    bH Tryz.prog W0 324 [pQ bm, .agg (qF on root user).toArray, .int .u32 va, iQ w, .int .u32 x] (pt bm (cX pv bt bs) :: aZ bt (its, dx room now) :: bQ bs L :: ge pv ps pm d fr pg R)
      (fun v B => v = iQ (lQ fr pg on root user va w 2) ∧ ∃ l U L' i d', Rep l i U ∧ U.length ≤ room ∧ MOk (lR fr pg on root user va w x) pg d' L' U ∧ i ≤ now + 3 ∧ B = pt bm (cX pv bt bs) :: aZ bt (l, dx room i) :: bQ bs L' :: ge pv ps pm d' (lR fr pg on root user va w x) pg R) := by
 obtain ⟨al, o⟩ : ∃ a, eE va w = a := ⟨_, rfl⟩
 rw [lR, lQ, o];have H := fun q => LB (fr := fr) (pg := pg) (on := on) (root := root) (user := user) (va := va) (kind := 2) q;obtain ⟨E, M⟩ : ∃ e, gi fr pg on root user va 2 = e := ⟨_, rfl⟩
 rw [M] at H;refine am func324 ntmps324 ?_;refine bA fun b6 => ?_;refine ah (ao CJ (yA bm pv bt bs)) ?_;refine ah (aC call234 (LD va G w)) ?_;rw [o];refine ai (fun c3 => ?_) fun c3 => ?_;refine ae ?_;have N : al = false := by grind
 rw [N, Qab (by decide), Qab (by decide)];exact ⟨_, ⟨rfl, its, T, L, now, d, hR, hT, h, by omega, rfl⟩, IO⟩;have N : al = true := by grind
 rw [N, Qad rfl, Qad rfl, M];refine aG rfl (qy call235 rfl (LA hK bm pv bt bs ps pm d on root user va G 2 its room now T L fr pg hR hT hr S h)) ?_;rintro _ B_ ⟨x4, j, V, O, k, m, rfl, b, p, s, g, u, C⟩;subst C;rw [M];replace b := b.hit;rw [M] at b;refine aw ?_;refine bi fun I => ?_;refine av aB ?_;refine ai (fun c6 => ?_) fun c6 => ?_;refine ae ?_;rw [Qab c6];exact ⟨_, ⟨rfl, j, V, O, k, m, p, s, g, u, rfl⟩, IO⟩;obtain rfl : E = 0 := by omega
 rw [Qad rfl];obtain ⟨f, p1, p2, p3, p4, p5, p6⟩ := H rfl;have J := LC p3;have W := a3e (w := w) p3 (o.trans N) p2;rw [p4, p5, p6];rw [p4] at b;refine ai (fun c8 => ?_) fun c8 => ?_;have X : ∀ y ∈ O, ∀ t, t = y.rt ∨ t = y.lf → Nat.testBit m t.toNat = false → t ≠ ((f / 64 : Nat) : Int) := fun y Y t Z _ e => by
  obtain ⟨_, z, hz, e1, hm⟩ := b (by simp_all);simp only [mi, Qar] at hm;have x5 := (g.ln z hz).r;have Q : eQ z.e.2.2 2 = true := hm.1.2.1;have hw : wB z.e.2.2 = true := by
   obtain ⟨n, S⟩ : ∃ n : Nat, z.e.2.2 = (n : Int) := ⟨z.e.2.2.toNat, by omega⟩
   rw [S] at Q ⊢;exact a3h (by omega) Q
  have K := g.ti.nowr z hz hw;rw [← Qat, uN] at K;exact K ⟨y, Y, by rw [tz, e1, ← e]; exact Z.imp QcW QcW⟩
 have D := g.save J ((f % 64 : Nat) : Int) w x g.dl (fun t q => q) X;refine bc [bm, I] 12 fun c => ?_;refine aj 0 4 c ?_;refine aj 5 6 c ?_;refine bG 4 (ao GO (Aa pv ps pm m)) fun c => ?_;refine bG 11 (ao NI (Dq ps fr _ _ w x hx g.F)) fun c => ?_;refine aK ?_;refine ae ?_;exact ⟨_, ⟨rfl, j, V, O, k, m, p, s, D, u, rfl⟩, IO⟩;have x0 : f / 64 < 12 := by omega
 have x1 : m ||| 2 ^ (f / 64) < 4096 := Qca (n := 12) g.dl (Du x0)
 have D := g.save J ((f % 64 : Nat) : Int) w x x1 (fun t q => (Bs q).1) (fun y Y t Z Q e => by
  have h1 := (g.ln y Y).own;have h3 := (Bs Q).2
  rcases Z with rfl | rfl <;> omega)
 have x2 : kU fr pg f w x = g6 fr (bJ pg ((f / 64 : Nat) : Int)).1 ((f % 64 : Nat) : Int) w x := by grind [kU]
 have x3 : pN fr pg f w m = m ||| 2 ^ (f / 64) := by grind [pN]
 refine bc [bm, I] 15 fun c => ?_;refine aj 0 6 c ?_;refine az 6 c (lh (64 * (f / 64))) ?_;refine aj 7 2 c ?_;refine az 9 c (ee f) ?_;refine az 10 c (bD (cZ (by omega))) ?_;refine aj 11 2 c ?_;refine bX 13 (cK call65 (Il pv ps pm m fr pg g.P g.F g.dl f (by omega) w x hx)) ?_; clear c;rintro _ B_ ⟨rfl, C⟩;subst C;rw [x2, x3, W];refine ⟨aV, fun c => ?_⟩;refine aj 14 1 c ?_;refine aK ?_;refine ae ?_;exact ⟨_, ⟨rfl, j, V, O, k, _, p, s, D, u, rfl⟩, IO⟩
theorem LF {pg n m p} (h : m ≠ n) : eh (pg.set n p) m = eh pg m := by
 grind [eh]
theorem hZ {pg} {n : Nat} {t p} (h : t ≠ (n : Int)) : aW (pg.set n p) t = aW pg t ∧ bJ (pg.set n p) t = bJ pg t := by
 have b : aW (pg.set n p) t = aW pg t := by
  unfold aW
  cases c : jr t with
  | false => rfl
  | true =>
   obtain ⟨i, rfl, d⟩ := kT c;rw [Qaf, LF (by omega)]
 refine ⟨b, ?_⟩;unfold bJ;rw [b];by_cases a : aW pg t = true;rw [Qad a, Qad a];simp only [aW, Qar] at a;obtain ⟨i, rfl, d⟩ := kT a.1;rw [Qaf, LF (by omega)];grind
theorem a3j {fr pg} {n : Nat} {t p} (h : t ≠ (n : Int)) : yz fr pg fr (pg.set n p) t :=
  EX rfl (hZ h).1 (hZ h).2 fun _ _ _ => rfl
theorem LOk.set {fr pg} {d n : Nat} {p x} (h : LOk fr pg d x) (a : x.e.1 ≠ n) (b : ∀ t, t = x.rt ∨ t = x.lf → aW pg t = true → t ≠ n) : LOk fr (pg.set n p) d x :=
  h.move ((hZ a).1.trans h.at_.1) (hZ a).2 fun t c f => ⟨f, fun q => a3j (b t c q)⟩
theorem Bt {pg : List Pl} {n} {p : Pl} (d : pg.length = 12) (e : n < 12) (c : p ≠ (0, 0)) : aW (pg.set n p) n = true ∧ bJ (pg.set n p) n = p := by
 have a : eh (pg.set n p) n = p := by grind [eh]
 have b : aW (pg.set n p) (n : Int) = true := by
  unfold aW;rw [Qaf, a, Qar];exact ⟨Qah (by omega), by simpa using c⟩
 exact ⟨b, by rw [bJ, Qad b, Qaf, a]⟩
theorem PlOk.set {N n pg} {p : Pl} (h : PlOk N pg) (c : pg.length = 12) (d : n < 12) (f : p ≠ (0, 0)) (g : p.1 < N) (i : ∀ t, aW pg t = true → (bJ pg t).1 ≠ p.1) : PlOk N (pg.set n p) := by
 have j := Bt c d f;refine ⟨fun t a => ?_, fun s t b a e => ?_⟩;by_cases q : t = (n : Int);grind;rw [(hZ q).1] at a; rw [(hZ q).2]; exact h.rng t a;by_cases q : s = (n : Int);grind [hZ];rw [(hZ q).1] at b;by_cases r : t = (n : Int);simp_all [hZ];rw [(hZ r).1] at a;rw [(hZ q).2, (hZ r).2] at e;exact h.inj s t b a e
theorem PlOk.drop {N n pg} (h : PlOk N pg) (f : pg.length = 12) : PlOk N (pg.set n (0, 0)) := by
 have d : aW (pg.set n (0, 0)) (n : Int) = false := by
  grind [aW, Qaf, eh]
 have b : ∀ t, aW (pg.set n (0, 0)) t = true → t ≠ (n : Int) := fun t a e => by rw [e, d] at a; cases a
 refine ⟨fun t a => ?_, fun s t c a e => ?_⟩;have q := b t a;rw [(hZ q).1] at a; rw [(hZ q).2]; exact h.rng t a;have q := b s c;have r := b t a;rw [(hZ q).1] at c;rw [(hZ r).1] at a;rw [(hZ q).2, (hZ r).2] at e;exact h.inj s t c a e
theorem MOk.come {fr pg} {d n : Nat} {L T p} (h : MOk fr pg d L T) (j : p.1 < (fr.length : Int)) (k : ∀ t, aW pg t = true → (bJ pg t).1 ≠ p.1) : MOk fr (eA pg n p) d L T := by
 unfold eA;split
 case isFalse => exact h
 case isTrue hz =>
  have l := hz;have a : aW pg (n : Int) = false := by
   grind [gm]
  have f : jr (n : Int) = true ∧ lp p = true := by
   grind [gm]
  obtain ⟨i, o, m⟩ := kT f.1;have b : p ≠ (0, 0) := fun e => by
   have := f.2;rw [e] at this;exact absurd this (by decide)
  have c := vN (n := (n : Int)) (p := p) h.P;rw [eA, Qad hz] at c;rw [Qaf] at c ⊢;refine ⟨h.F, h.dl, c, h.pl.set h.P.len (by omega) b j k, h.ti, fun x g => (h.ln x g).set (fun e => ?_) fun t _ q e => ?_⟩;have := (h.ln x g).at_.1;rw [e, a] at this; cases this;grind
theorem LOk.go {fr pg} {d n : Nat} {x} (h : LOk fr pg d x) (a : ng n x = false) : LOk fr (fI pg n) d x := by
 unfold fI;split;rw [Qaf];simp only [ng, QcS, QcB] at a;refine h.set a.2 fun t b _ e => ?_;have c := a.1;rw [← Qat, tz] at c;rcases b with rfl | rfl;omega;omega;exact h
theorem LG {N n : Nat} {pg} (a : pg.length = 12) (h : PlOk N pg) : PlOk N (fI pg n) := by
 unfold fI;split;rw [Qaf]; exact h.drop a;exact h
theorem a3k bm pv bt bs ps pm d its room now T L fr pg (O : Rep its now T) (Q : T.length ≤ room) (S : room ≤ 4) (n : Nat) (h : MOk fr pg d L T) : sP W0 130 [.pointer (some ⟨bm, 0, none⟩), .int .i64 n] (pt bm (cX pv bt bs) :: aZ bt (its, dx room now) :: bQ bs L :: pt pv (cB ps pm d) :: R) (fun v B => v = .int .i64 0 ∧ ∃ c w K, B = pt bm (cX pv bt bs) :: aZ bt (c, dx room now) :: bQ bs K :: pt pv (cB ps pm 0) :: R ∧ Rep c now w ∧ w.length ≤ room ∧ MOk fr (fI pg n) 0 K w) := by
 obtain ⟨I, u⟩ : ∃ I : List Ln → List It → Prop, (fun L T => TI L T ∧ ∀ x ∈ L, ng (n : Int) x = false → LOk fr (fI pg (n : Int)) d x) = I := ⟨_, rfl⟩
 have z : I L T := by
  rw [← u];exact ⟨h.ti, fun x f q => (h.ln x f).go q⟩
 have j : ∀ L T, I L T → L.length ≤ 1000 := fun L T q => by
  rw [← u] at q;exact QaN q.1.len (by decide)
 have l : ∀ L T p, I L T → I (L.filter fun x => !p x) (nO ((L.filter p).map Ln.k) T) := fun L T p q => by
  rw [← u] at q ⊢
  exact ⟨q.1.drop p fun y U => by
   obtain ⟨V, W⟩ := KZ U
   exact ⟨V, fun x f X e => W (Qbc.2 ⟨x, QaC.2 ⟨f, X⟩, e.symm⟩)⟩, fun x f => q.2 x (QaC.1 f).1⟩
 refine jq 9 func130 ntmps130 ?_;refine ew 2 (iZ CJ rfl (yA bm pv bt bs)) ?_;refine aD rfl (fun M => ?_) fun M => ?_;exact absurd M (by decide);refine au 5 ?_;refine aG rfl (mG Oe rfl (L5 bm pv bt bs ps pm d its (.int .i64 room) (.int .i64 now) now room T L O Q S h.dl I j l z)) ?_;rintro _ N ⟨rfl, m, o, g, a, A, C, r, D, _⟩;subst a;have E := j g o r;have b := l g o (ng (n : Int)) r;obtain ⟨i, s⟩ : ∃ i, (g.filter (ng (n : Int))).map Ln.k = i := ⟨_, rfl⟩
 have G : (g.filter (ng (n : Int))).length = i.length := by grind
 have H : i.length ≤ 1000 := by grind
 rw [s] at b;refine au 10 ?_;refine aG rfl (iZ call201 rfl (a1E bs g E (n : Int))) ?_;rintro _ N ⟨Y, Z, rfl, a⟩;subst a;rw [L3, s, G];refine aG rfl (vz call200 rfl (L0 bm pv bt bs m (.int .i64 room) (.int .i64 now) now o A (by omega) Y Z i H)) ?_;rintro _ N ⟨rfl, t, a, J⟩;subst a;refine au 8 ?_;refine ae ?_;rw [← u] at b
 have hm : MOk fr (fI pg (n : Int)) 0 (g.filter fun x => !ng (n : Int) x) (nO i o) := ⟨h.F, by decide, KV h.P, LG h.P.len h.pl, b.1, fun x f => by
  obtain ⟨hx1, hx2⟩ := QaC.1 f
  exact (b.2 x f (by grind)).clean (D x hx1)⟩
 exact ⟨_, ⟨rfl, t, nO i o, g.filter fun x => !ng (n : Int) x, rfl, J, QaN EY C, hm⟩, IO⟩
theorem MOk.flush {fr pg L T} (h : MOk fr pg 0 L T) : MOk fr pg 0 [] [] := ⟨h.F, h.dl, h.P, h.pl, TI.nil, fun x a => by simp at a⟩
theorem a3l bm pv bt bs ps pm d its room now T L fr pg (l : Rep its now T) (m : T.length ≤ room) (n : room ≤ 4) (h : MOk fr pg d L T) : sP W0 325 [.pointer (some ⟨bm, 0, none⟩)] (pt bm (cX pv bt bs) :: aZ bt (its, dx room now) :: bQ bs L :: pt pv (cB ps pm d) :: R) (fun v B => ∃ k a, v = .int .i64 k ∧ B = pt bm (cX pv bt bs) :: aZ bt (a, dx room now) :: bQ bs [] :: pt pv (cB ps pm 0) :: R ∧ Rep a now [] ∧ MOk fr pg 0 [] []) := by
 refine jq 9 func325 ntmps325 ?_;refine ew 2 (iZ CJ rfl (yA bm pv bt bs)) ?_;refine aD rfl (fun i => ?_) fun i => ?_;exact absurd i (by decide);refine au 5 ?_;refine aG rfl (mG Oe rfl (L6 bm pv bt bs ps pm d its (.int .i64 room) (.int .i64 now) now room T L fr pg l m n h)) ?_;rintro _ o ⟨rfl, c, p, q, b, e, r, j, _⟩;subst b;have s := e.length;have t := j.ti.len;refine au 8 ?_;refine aG rfl (iZ call367 rfl (a1c bt c (.int .i64 room) (.int .i64 now) now p e (by omega))) ?_;rintro _ o ⟨rfl, f, b, g⟩;subst b;refine au 8 ?_;refine ew 4 (iZ call368 rfl (a1F bs q (by omega))) ?_;refine ae ?_;exact ⟨_, ⟨_, f, rfl, rfl, g, j.flush⟩, IO⟩
structure Mu where
  pv : Nat
  ps : Nat
  pm : Nat
  bud : Nat
  fr : List aE
  pg : List Pl
def iB (bm : Nat) (x : Mu) : HP := chk (fun C => ∃ bt bs its T L now d, Rep its now T ∧ T.length ≤ 4 ∧ now ≤ x.bud ∧ MOk x.fr x.pg d L T ∧ C = [pt bm (cX x.pv bt bs), aZ bt (its, dx 4 now), bQ bs L, pt x.pv (cB x.ps x.pm d), pt x.pm (bN x.pg)])
section
variable {P : Program} {W0 : World} {N : FSz} {K : Act → World → Prop} {e : b0} {R : List HP} {bm pv ps pm bud : Nat} {fr : List aE} {pg : List Pl} {f : FuncId} {args : List Value} {Post : Value → List HP → Prop}
theorem r9 (h : ∀ c e b T L a d, Rep b a T → T.length ≤ 4 → a ≤ bud → MOk fr pg d L T → bH P W0 f args (pt bm (cX pv c e) :: aZ c (b, dx 4 a) :: bQ e L :: pt pv (cB ps pm d) :: pt pm (bN pg) :: R) Post) : bH P W0 f args (iB bm ⟨pv, ps, pm, bud, fr, pg⟩ :: R) Post :=
  qq fun C g => by obtain ⟨c, e, b, T, L, a, d, i, j, k, l, rfl⟩ := g; exact h c e b T L a d i j k l
theorem pq {bt bs now d its T L} (a : Rep its now T) (b : T.length ≤ 4) (c : now ≤ bud) (e : MOk fr pg d L T) : Ent (pt bm (cX pv bt bs) :: aZ bt (its, dx 4 now) :: bQ bs L :: pt pv (cB ps pm d) :: pt pm (bN pg) :: R) (iB bm ⟨pv, ps, pm, bud, fr, pg⟩ :: R) :=
  g5 (R := R) (C := [_, _, _, _, _]) ⟨bt, bs, its, T, L, now, d, a, b, c, e, rfl⟩
end
theorem LH {n pg pa w kind} (h : d5 n pg pa w kind = 0) : aW pg (pa / 64 : Nat) = true := by
 grind [d5, e6]
section
variable (W0 : World) (R : List HP) (bm pv ps pm bud : Nat) (fr : List aE) (pg : List Pl)
theorem LI (i : ∀ A, bF (aT W0 A) 1 0 jj) (s : bud < 800000) on root user (va : Nat) (h : va < 4294967296) w kind :
    bH Tryz.prog W0 163 [pV bm, .agg (qF on root user).toArray, .int .u32 va, .int .i64 w, .int .i64 kind] (iB bm ⟨pv, ps, pm, bud, fr, pg⟩ :: bB ps fr :: R)
      (fun v B => v = .tuple #[wV (pp fr pg on root user va w kind), .int .i64 (lQ fr pg on root user va w kind)] ∧ B = iB bm ⟨pv, ps, pm, bud + 3, fr, pg⟩ :: bB ps fr :: R) := by
 refine r9 fun a b c T L e d j k t l => ?_;refine ul (B := pt bm (cX pv a b) :: aZ a (c, dx 4 e) :: bQ b L :: ge pv ps pm d fr pg R) inferInstance ?_;refine iH (a3g W0 R i bm pv a b ps pm d on root user va h w kind c 4 e T L fr pg j k (by decide) (by omega) l) fun v B m => ?_;obtain ⟨rfl, f, u, n, g, o, p, q, r, x, rfl⟩ := m;refine ⟨_, ⟨rfl, rfl⟩, ?_⟩;exact Ent.trans (B := pt bm (cX pv a b) :: aZ a (f, dx 4 g) :: bQ b n :: pt pv (cB ps pm o) :: pt pm (bN pg) :: bB ps fr :: R) inferInstance (pq p q (by omega) r)
theorem a3m (i : ∀ A, bF (aT W0 A) 1 0 jj) (t : bud < 800000) on root user (va : Nat) (h : va < 4294967296) w (x : Nat) (j : x < 4294967296) :
    bH Tryz.prog W0 324 [pV bm, .agg (qF on root user).toArray, .int .u32 va, .int .i64 w, .int .u32 x] (iB bm ⟨pv, ps, pm, bud, fr, pg⟩ :: bB ps fr :: R)
      (fun v B => v = .int .i64 (lQ fr pg on root user va w 2) ∧ B = iB bm ⟨pv, ps, pm, bud + 3, lR fr pg on root user va w x, pg⟩ :: bB ps (lR fr pg on root user va w x) :: R) := by
 refine r9 fun a b c T L e d k l u m => ?_;refine ul (B := pt bm (cX pv a b) :: aZ a (c, dx 4 e) :: bQ b L :: ge pv ps pm d fr pg R) inferInstance ?_;refine iH (a3i W0 R i bm pv a b ps pm d on root user va h w x j c 4 e T L fr pg k l (by decide) (by omega) m) fun v B n => ?_;obtain ⟨rfl, f, y, o, g, p, q, r, s, z, rfl⟩ := n;refine ⟨_, ⟨rfl, rfl⟩, ?_⟩;exact Ent.trans (B := pt bm (cX pv a b) :: aZ a (f, dx 4 g) :: bQ b o :: pt pv (cB ps pm p) :: pt pm (bN pg) :: bB ps (lR fr pg on root user va w x) :: R) inferInstance (pq q r (by omega) s)
theorem a3n : bH Tryz.prog W0 325 [pV bm] (iB bm ⟨pv, ps, pm, bud, fr, pg⟩ :: R) (fun v B => ∃ k, v = .int .i64 k ∧ B = iB bm ⟨pv, ps, pm, bud, fr, pg⟩ :: R) := by
 refine r9 fun e f a T L b d g h i j => ?_;refine iH (a3l bm pv e f ps pm d a 4 b T L fr pg g h (by decide) j) fun v B l => ?_;obtain ⟨k, c, rfl, rfl, m, n⟩ := l;exact ⟨_, ⟨k, rfl, rfl⟩, pq m (by decide) i n⟩
theorem a3o (pa : Nat) (h : pa < 4294967296) w (x : Nat) (k : x < 4294967296) :
    bH Tryz.prog W0 65 [pV pv, .int .u32 pa, .int .i64 w, .int .u32 x] (iB bm ⟨pv, ps, pm, bud, fr, pg⟩ :: bB ps fr :: R)
      (fun v B => v = .int .i64 (d5 fr.length pg pa w 2) ∧ B = iB bm ⟨pv, ps, pm, bud, kU fr pg pa w x, pg⟩ :: bB ps (kU fr pg pa w x) :: R) := by
 refine r9 fun f g b T L c d l m o a => ?_;refine ul (B := pt pv (cB ps pm d) :: bB ps fr :: pt pm (bN pg) :: pt bm (cX pv f g) :: aZ f (b, dx 4 c) :: bQ g L :: R) inferInstance ?_;refine iH (Il pv ps pm d fr pg a.P a.F a.dl pa h w x k) fun v B p => ?_;obtain ⟨rfl, rfl⟩ := p;refine ⟨_, ⟨rfl, rfl⟩, ?_⟩;refine Ent.trans (B := pt bm (cX pv f g) :: aZ f (b, dx 4 c) :: bQ g L :: pt pv (cB ps pm (pN fr pg pa w d)) :: pt pm (bN pg) :: bB ps (kU fr pg pa w x) :: R) inferInstance (pq l m o ?_);unfold kU pN;split
 rename_i j
 obtain ⟨z, A, C⟩ := xE j;have i : d ||| 2 ^ (pa / 64) < 4096 := Qca (n := 12) a.dl (Du (by omega))
 exact a.save (LH j) ((pa % 64 : Nat) : Int) w x i (fun t q => (Bs q).1) (fun y r t s u e => by
  have D := (a.ln y r).own;have E := (Bs u).2
  rcases s with rfl | rfl <;> omega)
 exact a
end
structure VIt where
  n : Int
  p : Int
  s : Int
  hs : 0 ≤ s ∧ s < 10000000000000000000
instance : Hk VIt where
  default := ⟨0, 0, 0, by decide⟩
  ky := fun x => x.s - x.p * 100000000000000000000
@[reducible] def i3 (x : VIt) : List Value := [.int .i64 x.n, .int .i64 x.p, .int .i64 x.s]
theorem lB x : (i3 x).length = 3 := rfl
theorem tD (its : List VIt) sp i (a : i < its.length) : ((its.flatMap i3 ++ sp).drop (i * 3)).take 3 = i3 (its.getD i default) := by
 simp_all [rC, lB, List.getD]
theorem Bu (its : List VIt) sp i x (a : i < its.length) : dk (its.flatMap i3 ++ sp) (i * 3) (i3 x) = (its.set i x).flatMap i3 ++ sp := vD lB its i x sp a
theorem Bv (its : List VIt) sp i (a : i < its.length) : i * 3 + 3 ≤ (its.flatMap i3 ++ sp).length := by
 rw [Qae, cQ lB]; omega
theorem LJ {its : List VIt} {i} (h : i < its.length) : its ≠ [] := fun e => by rw [e] at h; simp at h
abbrev eI : Nat → List VIt × List Value → HP := nG 229 317 3 i3 32
abbrev s5 (b : Nat) : Value := .pointer (some ⟨b, 32, none⟩)
theorem LK b its cs : sQ W0 232 [s5 b] (eI b (its, cs) :: R) (iQ its.length) (eI b (its, cs) :: R) := by
 refine t8 fun a c d => ?_;refine am func232 ntmps232 ?_;refine aa (aF (aJ (fe d))) ?_;refine ae ?_;exact ⟨_, ⟨rfl, rfl⟩, nH rfl rfl d rfl⟩
theorem a3p b its cs (i k : Nat) (o : i < its.length) (hk : k < its.length) : sQ W0 500 [s5 b, iQ i, iQ k] (eI b (its, cs) :: R) (.bool (decide (Hp.us its i < Hp.us its k))) (eI b (its, cs) :: R) := by
 refine qJ lB (LJ o) (by decide) fun g c t f h j l => ?_;obtain ⟨x, u⟩ : ∃ x, its.getD i default = x := ⟨_, rfl⟩
 obtain ⟨y, v⟩ : ∃ y, its.getD k default = y := ⟨_, rfl⟩
 have d := tD its t i o;have e := tD its t k hk;rw [u] at d;rw [v] at e;have m : Hp.us its i = x.s - x.p * 100000000000000000000 := by rw [Hp.us, u]; rfl
 have n : Hp.us its k = y.s - y.p * 100000000000000000000 := by rw [Hp.us, v]; rfl
 have z := x.hs;have A := y.hs;refine kS func500 ntmps500 rfl rfl ?_;refine aQ (aY (ac rfl (bj rfl) (aP (aH (aQ ?_)))));refine eV [(b, 0, _), (g, i * 3, i3 x), (g, k * 3, i3 y)] 18 mixed rfl (bL (bU (cJ d rfl) (bU (cJ e rfl) bE))) (fun a => ?_);refine aj 0 3 a ?_;refine az 3 a (aF (cp (k := 0) rfl (fe f))) ?_;refine aj 4 1 a ?_;refine az 5 a (bI o) ?_;refine bu 6 rfl rfl rfl a (gK N5 zj rfl (j9 (k := 1) rfl) rfl) ?_;refine bu 7 rfl rfl rfl a (aM rfl) ?_;refine bu 8 rfl rfl rfl a (ik rfl) ?_;refine bu 9 rfl rfl rfl a (cD rfl a7F rfl sizeOf225 rfl (by first | exact Qac _ | rfl)) ?_;refine az 10 a (aF (cp (k := 0) rfl (fe f))) ?_;refine aj 11 1 a ?_;refine az 12 a (bI hk) ?_;refine bu 13 rfl rfl rfl a (gK N5 zj rfl (j9 (k := 2) rfl) rfl) ?_;refine fP (is := [14, 15]) (by kernel_rfl) rfl ⟨?_, ?_, trivial⟩;refine dL (dQ wS) ?_; clear a;rintro _ _ ⟨w, rfl, rfl⟩;refine ⟨(bL (bU (cJ d rfl) (bU (cJ e rfl) bE))), fun a => ?_⟩;refine bX 15 (dQ wS) ?_; clear a;rintro _ _ ⟨q, rfl, rfl⟩;refine ⟨(bL (bU (cJ d rfl) (bU (cJ e rfl) bE))), fun a => ?_⟩;refine kv 16 rfl rfl aB (bL (bU (cJ d rfl) (bU (cJ e rfl) bE))) fun a => ?_;refine kv 17 rfl rfl aB (bL (bU (cJ d rfl) (bU (cJ e rfl) bE))) fun a => ?_;refine aK ?_;refine ai (fun r => ?_) fun r => ?_;refine ae ?_;rw [m, n];refine ⟨_, ⟨Qak Value.bool ?_, rfl⟩, kI lB rfl rfl f rfl h j l⟩;rw [Qag, Qaj, Qaj];have : x.p ≠ y.p := by omega
 omega;refine ae ?_;rw [m, n];refine ⟨_, ⟨Qak Value.bool ?_, rfl⟩, kI lB rfl rfl f rfl h j l⟩;rw [Qag, Qaj, Qaj];have : x.p = y.p := by omega
 omega;skip;refine dL (dQ wS) ?_; clear a;rintro _ _ ⟨q, rfl, rfl⟩;refine ⟨(bL (bU (cJ d rfl) (bU (cJ e rfl) bE))), fun a => ?_⟩;refine bX 14 (dQ wS) ?_; clear a;rintro _ _ ⟨w, rfl, rfl⟩;refine ⟨(bL (bU (cJ d rfl) (bU (cJ e rfl) bE))), fun a => ?_⟩;refine kv 16 rfl rfl aB (bL (bU (cJ d rfl) (bU (cJ e rfl) bE))) fun a => ?_;refine kv 17 rfl rfl aB (bL (bU (cJ d rfl) (bU (cJ e rfl) bE))) fun a => ?_;refine aK ?_;refine ai (fun r => ?_) fun r => ?_;refine ae ?_;rw [m, n];refine ⟨_, ⟨Qak Value.bool ?_, rfl⟩, kI lB rfl rfl f rfl h j l⟩;rw [Qag, Qaj, Qaj];have : x.p ≠ y.p := by omega
 omega;refine ae ?_;rw [m, n];refine ⟨_, ⟨Qak Value.bool ?_, rfl⟩, kI lB rfl rfl f rfl h j l⟩;rw [Qag, Qaj, Qaj];have : x.p = y.p := by omega
 omega
theorem a3q b its cs (i k : Nat) (e : i < its.length) (hk : k < its.length) : sQ W0 503 [s5 b, iQ i, iQ k] (eI b (its, cs) :: R) (.tuple #[]) (eI b (Hp.swapL its i k, cs) :: R) := by
 refine qJ lB (LJ e) (by decide) fun g c d f l j h => ?_;refine am func503 ntmps503 ?_;refine bc [b] 28 fun a => ?_;refine aj 0 3 a ?_;refine az 3 a (aF (cp (k := 0) rfl (fe f))) ?_;refine aj 4 4 a ?_;refine az 8 a (aF (cp (k := 0) rfl (fe f))) ?_;refine aj 9 4 a ?_;refine az 13 a (aF (cp (k := 0) rfl (fe f))) ?_;refine aj 14 1 a ?_;refine az 15 a (bI hk) ?_;refine aj 17 3 a ?_;refine az 20 a (aF (cp (k := 0) rfl (fe f))) ?_;refine aj 21 1 a ?_;refine az 22 a (bI e) ?_;refine fP (is := [16, 23]) (by kernel_rfl) rfl ⟨?_, ?_, trivial⟩;refine dL (dP (dt (cJ (tD its d k hk) rfl))) ?_; clear a;rintro _ _ ⟨rfl, rfl⟩;refine ⟨aV, fun a => ?_⟩;refine bG 23 (dP (dt (cJ (tD its d i e) rfl))) fun a => ?_;refine az 24 a (bI e) ?_;refine cj 25 (iK (Bv its d i e) (Bu its d i (its.getD k default) e)) fun a => ?_;refine az 26 a (bI hk) ?_;refine cj 27 (iK (Bv (its.set i (its.getD k default)) d k (by grind)) (Bu (its.set i (its.getD k default)) d k (its.getD i default) (by grind))) fun a => ?_;refine aK ?_;refine bK (.inr rfl) .nil ?_;exact ⟨_, ⟨rfl, rfl⟩, kI lB rfl rfl f (by simp [Hp.swapL]) (by omega) j (by rw [Qae, cQ lB] at h ⊢; simpa [Hp.swapL] using h)⟩;skip;refine dL (dP (dt (cJ (tD its d i e) rfl))) ?_; clear a;rintro _ _ ⟨rfl, rfl⟩;refine ⟨aV, fun a => ?_⟩;refine bG 16 (dP (dt (cJ (tD its d k hk) rfl))) fun a => ?_;refine az 24 a (bI e) ?_;refine cj 25 (iK (Bv its d i e) (Bu its d i (its.getD k default) e)) fun a => ?_;refine az 26 a (bI hk) ?_;refine cj 27 (iK (Bv (its.set i (its.getD k default)) d k (by grind)) (Bu (its.set i (its.getD k default)) d k (its.getD i default) (by grind))) fun a => ?_;refine aK ?_;refine bK (.inr rfl) .nil ?_;exact ⟨_, ⟨rfl, rfl⟩, kI lB rfl rfl f (by simp [Hp.swapL]) (by omega) j (by rw [Qae, cQ lB] at h ⊢; simpa [Hp.swapL] using h)⟩
theorem a3r b its x cs : sQ W0 501 [s5 b] (eI b (its ++ [x], cs) :: R) (.iface 317 (.agg (i3 x).toArray)) (eI b (its, cs) :: R) := by
 refine qJ lB (by simp) (by decide) fun g c d a i e j => ?_;have k : (its ++ [x]).length = its.length + 1 := by simp
 rw [k] at i ⊢;have l : (its ++ [x]).getD its.length default = x := by grind
 have f := tD (its ++ [x]) d its.length (by omega);rw [l] at f;have h : (its ++ [x]).flatMap i3 ++ d = its.flatMap i3 ++ (i3 x ++ d) := by simp
 refine am func501 ntmps501 ?_;refine aa (aF (aJ (fe a))) ?_;refine aa (jo rfl rfl (by rw [bS (by simp only [maxLen] at e; omega)]; omega : IntKind.wrap .i64 (((its.length + 1 : Nat) : Int) - 1) = ((its.length : Nat) : Int))) ?_;refine aa (aF (aJ (fe a))) ?_;refine aa (bI (by omega)) ?_;refine aa (dt (cJ f rfl)) ?_;refine bi fun m => ?_;refine av aB ?_;refine aa (aF (aJ (fe a))) ?_;refine aa (oM zm zj rfl rfl rfl (by omega)) ?_;refine av (du (by rw [Qam]; exact a) set_set) ?_;refine ae ?_;rw [h];exact ⟨_, ⟨rfl, rfl⟩, kI (sp := i3 x ++ d) lB rfl rfl a rfl (by omega) e (by rw [← h]; exact j)⟩
theorem a3s b its x cs (k : its.length < 1000) : sQ W0 502 [s5 b, .iface 317 (.agg (i3 x).toArray)] (eI b (its, cs) :: R) (.tuple #[]) (eI b (its ++ [x], cs) :: R) := by
 refine t8 fun a c e => ?_;have f : its.flatMap i3 ++ [i3 x].flatten = (its ++ [x]).flatMap i3 := by simp
 refine kS func502 ntmps502 rfl rfl ?_;refine bc [] 12 fun d => ?_;refine aj 0 4 d ?_;refine aj 5 1 d ?_;refine az 6 d (sK Nt (fun _ h => by cases h) rfl) ?_;refine fP (is := [4, 7]) (by kernel_rfl) rfl ⟨?_, ?_, trivial⟩;refine dL (dP (aF (aJ (fe e)))) ?_; clear d;rintro _ _ ⟨rfl, rfl⟩;refine ⟨aV, fun d => ?_⟩;refine lN 7 (by kernel_rfl) rfl rfl (j0 zm zj wS rfl (fR rfl rfl iG) rfl (by decide) (by decide) (by decide)) rfl ?_; clear d;rintro _ _ ⟨g, rfl, rfl⟩;refine ⟨aV, fun d => ?_⟩;refine bX 8 (eW (sz := 3) (by_ := 24) (info := Tryz.t317) zm (by kernel_rfl) rfl rfl rfl rfl (by decide) rfl rfl eK rfl rfl (by simp only [maxLen]; omega) (by omega)) ?_; clear d;rintro _ _ ⟨i, j, rfl, rfl⟩;refine ⟨aV, fun d => ?_⟩;refine aj 9 2 d ?_;refine cj 11 (du (by grind) set_set) fun d => ?_;refine gC ?_;refine bK (.inr rfl) .nil ?_;exact ⟨_, ⟨rfl, rfl⟩, nH (its := its ++ [x]) f rfl e (by simp)⟩;skip;refine mD rfl rfl (j0 zm zj wS rfl (fR rfl rfl iG) rfl (by decide) (by decide) (by decide)) rfl ?_; clear d;rintro _ _ ⟨g, rfl, rfl⟩;refine ⟨aV, fun d => ?_⟩;refine bG 4 (dP (aF (aJ (fe e)))) fun d => ?_;refine bX 8 (eW (sz := 3) (by_ := 24) (info := Tryz.t317) zm (by kernel_rfl) rfl rfl rfl rfl (by decide) rfl rfl eK rfl rfl (by simp only [maxLen]; omega) (by omega)) ?_; clear d;rintro _ _ ⟨i, j, rfl, rfl⟩;refine ⟨aV, fun d => ?_⟩;refine aj 9 2 d ?_;refine cj 11 (du (by grind) set_set) fun d => ?_;refine aK ?_;refine bK (.inr rfl) .nil ?_;exact ⟨_, ⟨rfl, rfl⟩, nH (its := its ++ [x]) f rfl e (by simp)⟩
section
variable (w : World) (a : Addr)
theorem a3t : (method (Tryz.prog.types.size + Made.depth) 315 (.pointer (some a)) "Len").run Tryz.prog w = .ok (232, .pointer (some a)) w := by kernel_rfl
theorem a3u : (method (Tryz.prog.types.size + Made.depth) 315 (.pointer (some a)) "Less").run Tryz.prog w = .ok (500, .pointer (some a)) w := by kernel_rfl
theorem a3v : (method (Tryz.prog.types.size + Made.depth) 315 (.pointer (some a)) "Swap").run Tryz.prog w = .ok (503, .pointer (some a)) w := by kernel_rfl
theorem a3w : (method (Tryz.prog.types.size + Made.depth) 315 (.pointer (some a)) "Push").run Tryz.prog w = .ok (502, .pointer (some a)) w := by kernel_rfl
theorem a3x : (method (Tryz.prog.types.size + Made.depth) 315 (.pointer (some a)) "Pop").run Tryz.prog w = .ok (501, .pointer (some a)) w := by kernel_rfl
end
def Fe (W0 : World) (b : Nat) (cs : List Value) : HpO W0 VIt where
  T := 315
  p := s5 b
  el := fun x => .iface 317 (.agg (i3 x).toArray)
  H := fun l => eI b (l, cs)
  fL := 232
  fE := 500
  fS := 503
  fU := 502
  fO := 501
  mL := fun u => a3t u _
  mE := fun u => a3u u _
  mS := fun u => a3v u _
  mU := fun u => a3w u _
  mO := fun u => a3x u _
  cL := call232
  cE := call500
  cS := call503
  cU := call502
  cO := call501
  sL := fun R l => LK b l cs
  sE := fun R l i j hi hj => a3p b l cs i j hi hj
  sS := fun R l i j hi hj => a3q b l cs i j hi hj
  sU := fun R l x hl => a3s b l x cs hl
  sO := fun R l x => a3r b l x cs
theorem a3y b its x cs (c : its.length < 900) (d : Hp.Heap its its.length) : sP W0 149 [.iface 315 (s5 b), .iface 317 (.agg (i3 x).toArray)] (eI b (its, cs) :: R) (fun v B => v = .tuple #[] ∧ ∃ a, B = eI b (a, cs) :: R ∧ a.Perm (its ++ [x]) ∧ Hp.Heap a a.length) :=
  Hp.heapPush_spec (Fe W0 b cs) R its x c d
theorem a3z b its cs (c : its.length < 900) (d : its ≠ []) (e : Hp.Heap its its.length) : sP W0 196 [.iface 315 (s5 b)] (eI b (its, cs) :: R) (fun v B => ∃ x a, v = .iface 317 (.agg (i3 x).toArray) ∧ B = eI b (a, cs) :: R ∧ (a ++ [x]).Perm its ∧ Hp.Heap a a.length ∧ ∀ y ∈ its, Hk.ky x ≤ Hk.ky y) :=
  Hp.heapPop_spec (Fe W0 b cs) R its c d e
namespace Hp
variable {W0 : World} {α : Type} [Hk α] (o : HpO W0 α)
theorem heapRemove_spec (R : List HP) (its : List α) (i : Nat) (hN : its.length < 900) (hi : i < its.length) (hh : Heap its its.length) : sP W0 272 [iv o, iQ i] (kH 0 (o.H its) :: R) (fun v B => ∃ its', v = o.el (its.getD i default) ∧ B = kH 0 (o.H its') :: R ∧ (its' ++ [its.getD i default]).Perm its ∧ Heap its' its'.length) := by
 obtain ⟨n, hn⟩ : ∃ n, its.length = n + 1 := ⟨its.length - 1, by omega⟩
 have hs : i ≠ n → jF (swapL its i n) i n := fun hin c hc h0 => ⟨fun h1 h2 => by
  rw [kW (by omega) (by omega), kW (by omega) (by omega), Qab h2, Qab h1, Qab (by omega), Qab (by omega)]
  exact hh c (by omega) h0, fun h1 h2 => by
  rw [kW (by omega) (by omega), kW (by omega) (by omega), Qab (by omega), Qab (by omega), Qab (by omega), Qab (by omega)]
  have k1 := hh c (by omega) h0
  have k2 := hh i (by omega) h2
  rw [h1] at k1; omega⟩
 have hsl := xR its i n
 have fin : ∀ l : List α, l.Perm its → Heap l n → l.getD n default = its.getD i default → ∃ l', l = l' ++ [its.getD i default] ∧ l'.length = n ∧ Heap l' l'.length := fun l hp hH hx => by
  have := hp.length_eq
  obtain ⟨l', x, rfl, hl', hx'⟩ := xZ (l := l) (n := n) (by omega)
  rw [hx] at hx'; subst hx'
  exact ⟨l', rfl, hl', by rw [hl']; exact y3 hH (by omega)⟩
 have hend : i ≠ n → (swapL its i n).getD n default = its.getD i default := fun h => by
  rw [rS (by omega) (by omega), Qab (by omega), Qad rfl]
 refine am func272 ntmps272 ?_
 refine ah (fT rfl o.mL o.cL rfl (o.sL _ its)) ?_
 refine aa (o8 n) ?_
 refine ai (fun c2 => ?_) fun c2 => ?_
 have hin : i ≠ n := by omega
 refine ah (fT rfl o.mS o.cS rfl (o.sS _ its i n (by omega) (by omega))) ?_
 refine aG rfl (ao zu (vW o _ (swapL its i n) i n (by omega) (by omega) (by omega) (hs hin))) ?_
 rintro _ _ ⟨l, m, rfl, rfl, hD⟩
 have hll := hD.perm.length_eq
 refine aw ?_
 refine ai (fun c4 => ?_) fun c4 => ?_
 have hm : m = false := by simpa using c4
 obtain ⟨rfl, hmin⟩ := hD.no hm
 refine aG rfl (ao Cs (vV o _ (swapL its i n) i n (by omega) (by omega) (by omega) (An (hs hin) hmin))) ?_
 rintro _ _ ⟨rfl, l, rfl, hp, hH, ht⟩
 obtain ⟨l', rfl, hl', hH⟩ := fin l (hp.trans (kF (by omega) (by omega))) hH ((ht n (Qao _)).trans (hend hin))
 replace hp := hp.trans (kF (by omega) (by omega))
 generalize its.getD i default = x at hp ⊢
 refine aw ?_
 refine ah (fT rfl o.mO o.cO rfl (o.sO _ l' x)) ?_
 refine ae ?_
 exact ⟨_, ⟨l', rfl, rfl, by first | exact hp | exact QaO _, hH⟩, IO⟩
 have hm : m = true := by simpa using c4
 obtain ⟨l', rfl, hl', hH⟩ := fin l (hD.perm.trans (kF (by omega) (by omega))) (hD.yes hm) ((hD.tail n (Qao _)).trans (hend hin))
 have hp := hD.perm.trans (kF (l := its) (i := i) (j := n) (by omega) (by omega))
 generalize its.getD i default = x at hp ⊢
 refine ah (fT rfl o.mO o.cO rfl (o.sO _ l' x)) ?_
 refine ae ?_
 exact ⟨_, ⟨l', rfl, rfl, by first | exact hp | exact QaO _, hH⟩, IO⟩
 obtain rfl : n = i := by omega
 obtain ⟨l', hl, hl', hH⟩ := fin its (QaO _) (E3 hh (by omega)) rfl
 have hp : (l' ++ [its.getD n default]).Perm its := by rw [← hl]
 generalize hx : its.getD n default = x at hl hp ⊢
 rw [hl]
 refine ah (fT rfl o.mO o.cO rfl (o.sO _ l' x)) ?_
 refine ae ?_
 exact ⟨_, ⟨l', rfl, rfl, by first | exact hp | exact QaO _, hH⟩, IO⟩
end Hp
structure Li where
  w : Bool
  m : Bool
  p : Int
  s : Int
  hs : 0 ≤ s ∧ s < 10000000000000000000
instance : Inhabited Li := ⟨⟨false, false, 0, 0, by decide⟩⟩
@[reducible] def pU (x : Li) : List Value := [.bool x.w, .bool x.m, .int .i64 x.p, .int .i64 x.s]
theorem tE x : (pU x).length = 4 := rfl
def dY (ls : List Li) (now : Int) : List Value := ls.flatMap pU ++ [.slice none 0 0, .int .i64 now, .bool true]
theorem yJ {ls now} (h : ls.length = 8) : (dY ls now).length = 35 := by
 rw [dY, Qae, cQ tE, h]; rfl
theorem a3A {ls now} (h : ls.length = 8) : (dY ls now)[34]? = some (.bool true) := by
 rw [dY, Qbn (by rw [cQ tE, h]; decide), cQ tE, h]; rfl
theorem LL {ls now} (h : ls.length = 8) : (dY ls now)[33]? = some (iQ now) := by
 rw [dY, Qbn (by rw [cQ tE, h]; decide), cQ tE, h]; rfl
theorem a3B {ls now n j} (a : n < ls.length) (b : j < 4) : (dY ls now)[n * 4 + j]? = (pU (ls.getD n default))[j]? := by
 simp_all [dY, mF, tE]
theorem LM {W0 A R T E sz o b off α f} {its : List α} {cs vs} [hk : Tk (nG T E sz f o) b A (its, cs) R] (h : ∀ j v, vs[j]? = some v → off + j ≠ o ∧ cs[off + j]? = some v) : bF (aT W0 A) b off vs :=
  fun j v a => xY (o := o) (f := f) (T := T) (E := E) (sz := sz) (h j v a).1 (h j v a).2
theorem LN b its ls now (h : ls.length = 8) : sQ W0 193 [pV b] (eI b (its, dY ls now) :: R) (.bool false) (eI b (its, dY ls now) :: R) := by
 refine am func193 ntmps193 ?_;refine dj rfl rfl rfl (fun a => ?_) fun a => ?_;cases a;refine aw ?_;refine aa (aF (xY (b := b) (T := 229) (E := 317) (sz := 3) (f := i3) (o := 32) (by decide) (a3A h))) ?_;exact ae ap
def gH (n : Int) : Bool := decide (0 ≤ n ∧ n < 8)
theorem Ff b its ls now (h : ls.length = 8) n : sQ W0 120 [pV b, iQ n] (eI b (its, dY ls now) :: R) (iQ (if gH n then 0 else 1)) (eI b (its, dY ls now) :: R) := by
 refine am func120 ntmps120 ?_;refine ah (ao call193 (LN b its ls now h)) ?_;refine ai (fun a => ?_) fun a => ?_;refine ae ?_;rw [Qab (by grind [gH])];exact ap;refine ai (fun c => ?_) fun c => ?_;refine ae ?_;rw [Qab (by grind [gH])];exact ap;refine ae ?_;rw [Qad (by grind [gH])];exact ap
theorem a3C b its cs (i : Nat) (c : its.length < 900) (d : i < its.length) (e : Hp.Heap its its.length) : sP W0 272 [.iface 315 (s5 b), iQ i] (eI b (its, cs) :: R) (fun v B => ∃ a, v = .iface 317 (.agg (i3 (its.getD i default)).toArray) ∧ B = eI b (a, cs) :: R ∧ (a ++ [its.getD i default]).Perm its ∧ Hp.Heap a a.length) :=
  Hp.heapRemove_spec (Fe W0 b cs) R its i c d e
theorem LO {its' its} {x : VIt} {n} (c : (its' ++ [x]).Perm its) (d : x.n = n) (a : (its.map (·.n)).Nodup) : its'.Perm (its.filter fun y => y.n != n) := by
 have b := c.filter (fun y => y.n != n);have f : ((its' ++ [x]).map (·.n)).Nodup := (c.map (·.n)).symm.nodup a;have g : ∀ y ∈ its', (y.n != n) = true := fun y h => by
  rw [QaG, Qbp] at f;have := f.2.2 _ (QbO h) _ (Qbh.2 rfl);simp only [QbL, ne_eq];intro e; exact this (by rw [e, ← d])
 rw [QbC, QaV.2 g] at b;have i : [x].filter (fun y => y.n != n) = [] := by simp [d]
 rw [i, Qaw] at b;exact b
theorem a3D b its ls now (h : ls.length = 8) n (C : its.length < 900) (l : Hp.Heap its its.length) (m : (its.map (·.n)).Nodup) : sP W0 194 [pV b, iQ n] (eI b (its, dY ls now) :: R) (fun v B => v = .tuple #[] ∧ ∃ d, B = eI b (d, dY ls now) :: R ∧ d.Perm (its.filter fun y => y.n != n) ∧ Hp.Heap d d.length) := by
 by_cases q : its = [];subst q;refine t8 fun a c f => ?_;refine am func194 ntmps194 ?_;refine aa (aF (aJ (fe f))) ?_;refine d7 (fun _ : Unit => True) (fun _ => [(11, iQ 0), (12, iQ 0)]) (fun _ => pt b (ag ((dY ls now).set 32 (.slice a ([] : List VIt).length c)) 229) :: osl 317 3 (.slice a ([] : List VIt).length c) (([] : List VIt).flatMap i3) :: R) (fun _ => 0) () ?_ ?_;trivial;intro _ _;refine aw ?_;refine aD rfl (fun o => ?_) fun o => ?_;omega;refine aw ?_;refine bK (.inr rfl) .nil ?_;exact ⟨_, ⟨rfl, [], rfl, QaO _, l⟩, nH rfl rfl f rfl⟩;refine qJ lB q (by decide) fun g c r f s t u => ?_;refine am func194 ntmps194 ?_;refine aa (aF (aJ (fe f))) ?_;refine d7 (fun k : Nat => k ≤ its.length ∧ ∀ j, j < k → (its.getD j default).n ≠ n) (fun k => [(0, pV b), (1, iQ n), (10, .slice (some ⟨g, 0, none⟩) its.length c), (11, iQ (its.length : Nat)), (12, iQ k)]) (fun k => pt b (ag ((dY ls now).set 32 (.slice (some ⟨g, 0, none⟩) its.length c)) 229) :: pt g (ag (its.flatMap i3 ++ r) 317) :: R) (fun k => its.length - k) 0 ?_ ?_;grind;intro k ⟨I, D⟩;refine aw ?_;refine ai (fun o => ?_) fun o => ?_;have e : k < its.length := by omega
 obtain ⟨x, w⟩ : ∃ x, its.getD k default = x := ⟨_, rfl⟩
 have z := tD its r k e;rw [w] at z;refine aa (bI e) ?_;refine aa (dt (cJ z rfl)) ?_;refine bi fun E => ?_;refine av aB ?_;refine ai (fun F => ?_) fun F => ?_;refine dr (B := eI b (its, dY ls now) :: pt E (ag (i3 x) 317) :: R) (kI lB rfl rfl f rfl s t u) ?_;refine aw ?_;refine aG rfl (ao call272 (a3C b its (dY ls now) k C e l)) ?_;rintro _ J ⟨d, rfl, p, A, G⟩;obtain rfl := p.symm;refine aw ?_;refine bK (.inl rfl) .nil ?_;rw [w] at A;exact ⟨_, ⟨rfl, d, rfl, LO A (by omega) m, G⟩, IO⟩;refine aa co ?_;refine bM (k + 1) ?_;grind;refine bK (.inr rfl) .nil ?_;obtain rfl : k = its.length := by omega
 refine ⟨_, ⟨rfl, its, rfl, ?_, l⟩, kI lB rfl rfl f rfl s t u⟩;rw [QaV.2 fun y H => ?_];obtain ⟨j, i, rfl⟩ := Qbb.1 H;have := D j i;rw [Qau, QaR i] at this;simpa using this
theorem Fg {W0 A R b its ls now n} [hk : Tk eI b A (its, dY ls now) R] (a : ls.length = 8) (e : n < 8) : bF (aT W0 A) b (n * 4) (pU (ls.getD n default)) :=
  LM (T := 229) (E := 317) (sz := 3) (o := 32) (f := i3) (its := its) (cs := dY ls now) (R := R) (hk := hk) fun j v c => by
 have d : j < 4 := by
  grind
 exact ⟨by omega, (a3B (by omega) d).trans c⟩
def s6 (n : Int) (x : Li) : List VIt := if x.w && !x.m then [⟨n, x.p, x.s, x.hs⟩] else []
theorem a3E b its ls now (h : ls.length = 8) (n : Nat) (q : n < 8) (C : its.length < 800) (r : Hp.Heap its its.length) (k : (its.map (·.n)).Nodup) : sP W0 121 [pV b, iQ n] (eI b (its, dY ls now) :: R) (fun v B => v = .tuple #[] ∧ ∃ c, B = eI b (c, dY ls now) :: R ∧ c.Perm ((its.filter fun y => y.n != (n : Int)) ++ s6 n (ls.getD n default)) ∧ Hp.Heap c c.length) := by
 obtain ⟨x, t⟩ : ∃ x, ls.getD n default = x := ⟨_, rfl⟩
 rw [t];refine am func121 ntmps121 ?_;refine aG rfl (ao call194 (a3D b its ls now h (n : Int) (by omega) r k)) ?_;rintro _ u ⟨rfl, a, e, d, f⟩;obtain rfl := e.symm;have w : a.length ≤ its.length := by rw [d.length_eq]; exact QaM _ _
 have g : bF (aT W0 (eI b (a, dY ls now) :: R)) b (n * 4) (pU x) := by grind [Fg]
 refine aw ?_;refine aa (eL q) ?_;refine aa (dt g) ?_;refine bi fun z => ?_;refine av aB ?_;refine ci (fun i => ?_) fun i => ?_;refine ai (fun A => ?_) fun A => ?_;refine bc [z] 12 fun l => ?_;refine aj 0 11 l ?_;refine bX 11 (ao Cu (a3y b a ⟨n, x.p, x.s, x.hs⟩ (dY ls now) (by omega) f)) ?_; clear l;rintro _ u ⟨rfl, j, e, m, o⟩;obtain rfl := e.symm;refine ⟨aV, fun l => ?_⟩;refine aK ?_;refine bK (.inr rfl) .nil ?_;refine ⟨_, ⟨rfl, j, rfl, ?_, o⟩, IO⟩;rw [s6, Qad (by simp_all)];exact m.trans (d.append_right _);refine bK (.inr rfl) .nil ?_;refine ⟨_, ⟨rfl, a, rfl, ?_, f⟩, IO⟩;rw [s6, Qab (by simp_all), Qaw];exact d;refine bK (.inr rfl) .nil ?_;refine ⟨_, ⟨rfl, a, rfl, ?_, f⟩, IO⟩;rw [s6, Qab (by simp_all), Qaw];exact d
theorem a3F {ls now x v} (h : ls.length = 8) : ((dY ls now).set 32 v).set 33 (iQ x) = (dY ls x).set 32 v := by
 have e : (ls.flatMap pU).length = 32 := by rw [cQ tE, h]
 have g : ∀ y : Int, (dY ls y).set 32 v = ls.flatMap pU ++ [v, iQ y, .bool true] := fun y => by
  rw [dY, Qbz _ _ (by omega), e]; rfl
 rw [g, g, Qbz _ _ (by omega), e]; rfl
theorem Fh {ls now v u n j y} (h : ls.length = 8) (c : n < 8) (a : j < 4) (b : pU y = (pU (ls.getD n default)).set j u) : ((dY ls now).set 32 v).set (n * 4 + j) u = (dY (ls.set n y) now).set 32 v := by
 rw [List.set_comm _ _ (by omega)];rw [dY, qp tE ls n j u y _ (by omega) a (by rw [b]; simp [List.getD, show n < ls.length by omega])];rfl
theorem Fj {W0 A R b ls now v} [hk : Tk pt b A (ag ((dY ls now).set 32 v) 229) R] (h : ls.length = 8) : bF (aT W0 A) b 33 [iQ now] := fun j u a => by
 match j, a with
 | 0, a =>
  rw [← Qbg a];exact aJ (by rw [QaP (by decide)]; exact LL h)
 | j + 1, a => cases a
theorem a3G b its ls now (h : ls.length = 8) (n : Nat) (i : n < 8) (C : its.length < 800) (D : Hp.Heap its its.length) (j : (its.map (·.n)).Nodup) (t : (ls.getD n default).w = false) hb (F : 0 ≤ now ∧ now < 4611686018427387904) : sP W0 51 [pV b, iQ n] (eI b (its, dY ls now) :: R) (fun v B => v = iQ 0 ∧ ∃ d, B = eI b (d, dY (ls.set n ⟨true, (ls.getD n default).m, (ls.getD n default).p, now + 1, hb⟩) (now + 1)) :: R ∧ d.Perm ((its.filter fun y => y.n != (n : Int)) ++ s6 n ⟨true, (ls.getD n default).m, (ls.getD n default).p, now + 1, hb⟩) ∧ Hp.Heap d d.length) := by
 obtain ⟨x, u⟩ : ∃ x, ls.getD n default = x := ⟨_, rfl⟩
 have l : n < ls.length := by omega
 have q : gH (n : Int) = true := by grind [gH]
 rw [u] at t ⊢;refine am Of ntmps51 ?_;refine ku (ao Og (Ff b its ls now h (n : Int))) ?_;rw [Qad q];have g : bF (aT W0 (eI b (its, dY ls now) :: R)) b (n * 4) (pU x) := by grind [Fg]
 refine au 9 ?_;refine jR ?_;refine iS 1 (eL i) ?_;refine aa (aF (g 0 _ rfl)) ?_;refine ai (fun z => ?_) fun z => ?_;refine xX (b := b) (T := 229) (E := 317) (sz := 3) (f := i3) (o := 32) fun a c H => ?_;refine aw ?_;refine aa (aF (aJ (by rw [QaP (by decide)]; exact LL h))) ?_;refine aa co ?_;refine av (du (by grind [Qam, yJ]) (a3F h)) ?_;refine eV [(b, 33, [iQ (now + 1)])] 18 mixed rfl (bU (Fj (by simp [h])) bE) (fun e => ?_);refine aj 0 7 e ?_;refine az 7 e (aF (ko (k := 0) rfl)) ?_;refine aj 8 2 e ?_;refine az 10 e (eL i) ?_;refine aj 11 1 e ?_;refine aj 13 2 e ?_;refine kv 12 rfl rfl (du (by grind [yJ]) (Fh (y := ⟨true, x.m, x.p, x.s, x.hs⟩) h i (by decide) (by rw [u]; rfl))) (bU (Fj (by simp [h])) bE) fun e => ?_;refine az 15 e (eL i) ?_;refine aj 16 1 e ?_;refine kv 17 rfl rfl (du (by grind [Qam, yJ]) (Fh (y := ⟨true, x.m, x.p, now + 1, hb⟩) (by simp [h]) i (by decide) (by grind))) (bU (Fj (by simp [h])) bE) fun e => ?_;refine aK ?_;rw [List.set_set];refine dr (B := eI b (its, dY (ls.set n ⟨true, x.m, x.p, now + 1, hb⟩) (now + 1)) :: R) (nH rfl rfl (by grind [yJ]) rfl) ?_;refine aw ?_;refine aG rfl (ao call121 (a3E b its (ls.set n ⟨true, x.m, x.p, now + 1, hb⟩) (now + 1) (by simp [h]) n i C D j)) ?_;rintro _ I ⟨rfl, d, r, A, G⟩;obtain rfl := r.symm;rw [show (ls.set n ⟨true, x.m, x.p, now + 1, hb⟩).getD n default = ⟨true, x.m, x.p, now + 1, hb⟩ by simp [List.getD, l]] at A;refine aw ?_;refine ae ?_;exact ⟨_, ⟨rfl, d, rfl, A, G⟩, IO⟩;exact absurd (by rw [t]; decide) z
theorem a3H b its ls now (h : ls.length = 8) (n : Nat) (f : n < 8) (d : (ls.getD n default).w = true) : sQ W0 51 [pV b, iQ n] (eI b (its, dY ls now) :: R) (iQ 0) (eI b (its, dY ls now) :: R) := by
 obtain ⟨x, g⟩ : ∃ x, ls.getD n default = x := ⟨_, rfl⟩
 have c : gH (n : Int) = true := by grind [gH]
 rw [g] at d;refine am Of ntmps51 ?_;refine ku (ao Og (Ff b its ls now h (n : Int))) ?_;rw [Qad c];have a : bF (aT W0 (eI b (its, dY ls now) :: R)) b (n * 4) (pU x) := by grind [Fg]
 refine au 9 ?_;refine jR ?_;refine iS 1 (eL f) ?_;refine aa (aF (a 0 _ rfl)) ?_;refine ai (fun e => ?_) fun e => ?_;exact absurd e (by rw [d]; decide);exact ae ap
theorem a3I b its ls now (h : ls.length = 8) n (c : gH n = false) : sQ W0 51 [pV b, iQ n] (eI b (its, dY ls now) :: R) (iQ 1) (eI b (its, dY ls now) :: R) := by
 refine am Of ntmps51 ?_;refine ku (ao Og (Ff b its ls now h n)) ?_;rw [Qab (by grind)];refine aw ?_;refine ai (fun a => ?_) fun a => ?_;exact ae ap;exact absurd (by decide) a
end
section
def jw (ls : List Li) (n : Nat) : Bool := (ls.getD n default).w && !(ls.getD n default).m
def pW (ls : List Li) (n : Nat) : VIt := ⟨n, (ls.getD n default).p, (ls.getD n default).s, (ls.getD n default).hs⟩
def lS (ls : List Li) : List VIt := ((List.range 8).filter (jw ls)).map (pW ls)
theorem a3J ls (n : Nat) : s6 n (ls.getD n default) = if jw ls n then [pW ls n] else [] := rfl
theorem Fl {ls y} : y ∈ lS ls ↔ ∃ n, n < 8 ∧ jw ls n = true ∧ pW ls n = y := by
 simp only [lS, Qbc, QaC, QbB];exact ⟨fun ⟨n, ⟨a, b⟩, c⟩ => ⟨n, a, b, c⟩, fun ⟨n, a, b, c⟩ => ⟨n, ⟨a, b⟩, c⟩⟩
theorem LP ls : (lS ls).length ≤ 8 := by
 rw [lS, Qav];exact QaN (QaM _ _) (by simp)
theorem LQ {α β : Type} {f : α → β} (c : ∀ a b, f a = f b → a = b) : ∀ {l : List α}, l.Nodup → (l.map f).Nodup
 | [], _ => QcY
 | a :: l, h => by
  rw [Qbw] at h;rw [QaL, Qbw];refine ⟨fun d => ?_, LQ c h.2⟩;obtain ⟨b, g, e⟩ := Qbc.1 d;exact h.1 (c _ _ e ▸ g)
theorem a3K ls : ((lS ls).map (·.n)).Nodup := by
 rw [lS, Qcg];refine LQ (fun a b e => ?_) (List.nodup_range.sublist Qby);have : ((a : Nat) : Int) = ((b : Nat) : Int) := e;omega
theorem a3L n (f : n < 8) : (List.range 8).Perm ((List.range 8).filter (· != n) ++ [n]) := by
 refine (List.perm_ext_iff_of_nodup List.nodup_range ?_).2 fun a => ?_;rw [Qbp];refine ⟨List.nodup_range.sublist Qby, by simp, fun a d b c e => ?_⟩;rw [Qbh] at c;have := (QaC.1 d).2;subst c; subst e;simp at this;simp only [QaZ, QaC, QbB, Qbh, QbL, ne_eq];omega
theorem a3M ls (n : Nat) : ((lS ls).filter fun y => y.n != (n : Int)) = (((List.range 8).filter (· != n)).filter (jw ls)).map (pW ls) := by
 rw [lS, List.filter_map, List.filter_filter, List.filter_filter];congr 1;apply Qcv;intro a _;have : ((fun y : VIt => y.n != (n : Int)) ∘ pW ls) a = (a != n) := by
  show (((a : Nat) : Int) != ((n : Nat) : Int)) = (a != n);rw [Qag, QbL, QbL];omega
 rw [this, Bool.and_comm]
theorem uV {α : Type} [Inhabited α] {l : List α} {n k x} (h : k ≠ n) : (l.set n x).getD k default = l.getD k default := by
 simp only [Qau];rw [QaP (fun e => h e.symm)]
theorem wE {α : Type} [Inhabited α] {l : List α} {n x} (h : n < l.length) : (l.set n x).getD n default = x := by
 simp [List.getD, h]
theorem a3N {ls ls' n} (h : ∀ k, k ≠ n → ls'.getD k default = ls.getD k default) : (((List.range 8).filter (· != n)).filter (jw ls')).map (pW ls') = (((List.range 8).filter (· != n)).filter (jw ls)).map (pW ls) := by
 have e : ((List.range 8).filter (· != n)).filter (jw ls') = ((List.range 8).filter (· != n)).filter (jw ls) := by
  apply Qcv;intro a b;have : a ≠ n := by simpa using (QaC.1 b).2
  unfold jw; rw [h a this]
 rw [e];apply List.map_congr_left;intro a b;have : a ≠ n := by simpa using (QaC.1 (QaC.1 b).1).2
 unfold pW; congr 1 <;> rw [h a this]
theorem LR {ls} {n : Nat} {x} (a : n < 8) (d : ls.length = 8) : (((lS ls).filter fun y => y.n != (n : Int)) ++ s6 n x).Perm (lS (ls.set n x)) := by
 have e := (((a3L n a).filter (jw (ls.set n x))).map (pW (ls.set n x))).symm;rw [QbC, QaG, a3N (fun k b => uV b), ← a3M] at e;have c : (([n] : List Nat).filter (jw (ls.set n x))).map (pW (ls.set n x)) = s6 n x := by
  have := a3J (ls.set n x) n;rw [wE (by omega)] at this;rw [this, List.filter_cons, List.filter_nil];split <;> rfl
 rw [c] at e;exact e
def re (ls : List Li) (n : Nat) : Int := (ls.getD n default).s - (ls.getD n default).p * 100000000000000000000
def tF (ls : List Li) (n : Nat) : Bool := jw ls n && (List.range 8).all fun k => !jw ls k || decide (re ls n ≤ re ls k)
def jK (ls : List Li) : Option Nat := (List.range 8).find? (tF ls)
structure VOk (ls : List Li) (now : Int) : Prop where
  len : ls.length = 8
  nn : 0 ≤ now
  le : ∀ n, n < 8 → (ls.getD n default).s ≤ now
  ne : ∀ n m, n < 8 → m < 8 → n ≠ m → (ls.getD n default).w = true → (ls.getD m default).w = true → (ls.getD n default).s ≠ (ls.getD m default).s
theorem a3O {ls now} (h : VOk ls now) {n m} (c : n < 8) (d : m < 8) (a : jw ls n = true) (b : jw ls m = true) (e : re ls n = re ls m) : n = m := by
 rcases Nat.decEq n m with q | q;have f := (ls.getD n default).hs;have g := (ls.getD m default).hs;simp only [jw, Qar] at a b;have := h.ne n m c d q a.1 b.1;unfold re at e;omega;exact q
theorem a3P {ls now} (h : VOk ls now) (b : lS ls = []) : jK ls = none := by
 unfold jK;rw [QbU];intro n c a;simp only [tF, Qar] at a;have : pW ls n ∈ lS ls := Fl.2 ⟨n, by simpa using c, a.1, rfl⟩;rw [b] at this;cases this
theorem LS {ls now} (h : VOk ls now) {n} (b : n < 8) (c : jw ls n = true) (d : ∀ k, k < 8 → jw ls k = true → re ls n ≤ re ls k) : jK ls = some n := by
 have f : tF ls n = true := by
  simp only [tF, Qar, QbT];refine ⟨c, fun k g => ?_⟩
  cases q : jw ls k with
  | false => rfl
  | true => simpa using d k (by simpa using g) q
 unfold jK
 cases q : (List.range 8).find? (tF ls) with
 | none =>
  rw [QbU] at q;exact absurd f (q n (by simpa using b))
 | some m =>
  have a := List.find?_some q;have e : m < 8 := by simpa using Qcq q
  simp only [tF, Qar, QbT] at a;have i : re ls m ≤ re ls n := by
   have := a.2 n (by simpa using b);simpa [c] using this
  rw [a3O h b e c a.1 (Int.le_antisymm (d m e a.1) i)]
theorem yK {ls n} (h : jK ls = some n) : n < 8 ∧ jw ls n = true := by
 unfold jK at h;have a := List.find?_some h;simp only [tF, Qar] at a;exact ⟨by simpa using Qcq h, a.1⟩
def ml (ls : List Li) (now : Int) (n : Nat) : List Li := if h : (ls.getD n default).w = false ∧ 0 ≤ now + 1 ∧ now + 1 < 10000000000000000000 then ls.set n ⟨true, (ls.getD n default).m, (ls.getD n default).p, now + 1, h.2⟩ else ls
def k8 (ls : List Li) (now : Int) (n : Nat) : Int := if (ls.getD n default).w = false then now + 1 else now
def s7 (ls : List Li) (n : Nat) : List Li := ls.set n ⟨false, (ls.getD n default).m, (ls.getD n default).p, (ls.getD n default).s, (ls.getD n default).hs⟩
theorem VOk.set {ls now now' n x} (h : VOk ls now) (u : now ≤ now') (t : x.s ≤ now') (p : x.w = true → now < x.s ∨ (ls.getD n default).w = true ∧ x.s = (ls.getD n default).s) : VOk (ls.set n x) now' := by
 refine ⟨by rw [Qam, h.len], by have := h.nn; omega, fun k r => ?_, fun a b g i f d c => ?_⟩;by_cases q : k = n;subst q; rw [wE (by rw [h.len]; exact r)]; exact t;rw [uV q]; have := h.le k r; omega;by_cases l : a = n;have j : b ≠ n := fun e => f (l.trans e.symm);subst l;rw [wE (by rw [h.len]; exact g)] at d ⊢;rw [uV j] at c ⊢;rcases p d with q | ⟨m, o⟩;have := h.le b i; omega;rw [o]; exact h.ne a b g i f m c;rw [uV l] at d ⊢;by_cases j : b = n;subst j;rw [wE (by rw [h.len]; exact i)] at c ⊢;rcases p c with q | ⟨m, o⟩;have := h.le a g; omega;rw [o]; exact h.ne a b g i f d m;rw [uV j] at c ⊢;exact h.ne a b g i f d c
theorem VOk.raise {ls now n} (h : VOk ls now) : VOk (ml ls now n) (k8 ls now n) := by
 unfold ml k8;split
 rename_i q
 rw [Qad q.1];exact h.set (by omega) (QbY _) fun _ => .inl (by show now < now + 1; omega);split;exact ⟨h.len, by have := h.nn; omega, fun k a => by have := h.le k a; omega, h.ne⟩;exact h
theorem VOk.take {ls now n} (h : VOk ls now) (a : n < 8) : VOk (s7 ls n) now := h.set (QbY _) (h.le n a) fun e => by cases e
end
section
open Go.RowKit
def nP (b : Nat) (x : List Li × Int) : HP := chk (fun C => ∃ its : List VIt, its.Perm (lS x.1) ∧ Hp.Heap its its.length ∧ VOk x.1 x.2 ∧ C = [eI b (its, dY x.1 x.2)])
section
variable {P : Program} {W0 : World} {N : FSz} {K : Act → World → Prop} {e : b0} {A R B : List HP} {b : Nat} {ls : List Li} {now : Int} {f : FuncId} {args : List Value} {Post : Value → List HP → Prop}
theorem LU (h : ∀ a, a.Perm (lS ls) → Hp.Heap a a.length → VOk ls now → bH P W0 f args (eI b (a, dY ls now) :: R) Post) : bH P W0 f args (nP b (ls, now) :: R) Post :=
  qq fun C c => by obtain ⟨a, d, e, g, rfl⟩ := c; exact h a d e g
theorem yL {its} [h : Tk eI b A (its, dY ls now) R] (a : its.Perm (lS ls)) (c : Hp.Heap its its.length) (d : VOk ls now) [k : Ent R B] : Ent A (nP b (ls, now) :: B) :=
  (Ent.ofPerm h.perm).trans ((Ent.cons k).trans (g5 (R := B) (C := [_]) ⟨its, a, c, d, rfl⟩))
theorem a3Q : Ent (pt b (ag ((dY (List.replicate 8 default) 0).set 32 ek) 229) :: R) (nP b (List.replicate 8 default, 0) :: R) := by
 have e : Ent (pt b (ag ((dY (List.replicate 8 default) 0).set 32 ek) 229) :: R) (eI b ([], dY (List.replicate 8 default) 0) :: R) :=
   (Ent.cons (fQ (E := 317) (sz := 3) (A := R) (B := R))).trans (g5 (R := R) (C := [_, _]) ⟨by decide, none, 0, rfl⟩)
 refine e.trans (g5 (R := R) (C := [_]) ⟨[], ?_, fun c a => absurd a (Qcc c), ?_, rfl⟩);exact QaO _;refine ⟨rfl, QbY _, fun n d => ?_, fun n m d f _ h => ?_⟩;have : n = 0 ∨ n = 1 ∨ n = 2 ∨ n = 3 ∨ n = 4 ∨ n = 5 ∨ n = 6 ∨ n = 7 := by omega
 rcases this with rfl | rfl | rfl | rfl | rfl | rfl | rfl | rfl <;> decide;have : n = 0 ∨ n = 1 ∨ n = 2 ∨ n = 3 ∨ n = 4 ∨ n = 5 ∨ n = 6 ∨ n = 7 := by omega
 rcases this with rfl | rfl | rfl | rfl | rfl | rfl | rfl | rfl <;> exact absurd h (by decide)
end
theorem a3R {n} (h : gH n = true) : ∃ k : Nat, n = k ∧ k < 8 := by
 have := Qas h;exact ⟨n.toNat, by omega, by omega⟩
theorem LV {its : List VIt} {ls} (h : its.Perm (lS ls)) : (its.map (·.n)).Nodup := (h.map (·.n)).symm.nodup (a3K ls)
theorem LW b ls now n (x : now < 4000000000000000000) : sQ W0 51 [pV b, iQ n] (nP b (ls, now) :: R) (iQ (if gH n then 0 else 1)) (nP b (if gH n then ml ls now n.toNat else ls, if gH n then k8 ls now n.toNat else now) :: R) := by
 refine LU fun a f l c => ?_;have y : a.length ≤ 8 := by rw [f.length_eq]; exact LP ls
 have z := c.nn;by_cases d : gH n = true;obtain ⟨k, rfl, o⟩ := a3R d;rw [Qad d, Qad d, Qad d, Qaf];by_cases h : (ls.getD k default).w = true;refine iH (a3H b a ls now c.len k o h) fun v B g => ?_;obtain ⟨rfl, rfl⟩ := g;have i : ml ls now k = ls := by rw [ml, dif_neg (by rw [h]; simp)]
 have j : k8 ls now k = now := by rw [k8, Qab (by rw [h]; decide)]
 rw [i, j];exact ⟨_, ⟨rfl, rfl⟩, yL f l c⟩;have e : (ls.getD k default).w = false := by simpa using h
 have q : 0 ≤ now + 1 ∧ now + 1 < 10000000000000000000 := by omega
 have r := c.raise (n := k);refine iH (a3G b a ls now c.len k o (by omega) l (LV f) e q (by omega)) fun v B g => ?_;obtain ⟨rfl, s, rfl, t, u⟩ := g;have i : ml ls now k = ls.set k ⟨true, (ls.getD k default).m, (ls.getD k default).p, now + 1, q⟩ := by rw [ml, dif_pos ⟨e, q⟩]
 have j : k8 ls now k = now + 1 := by rw [k8, Qad e]
 rw [i, j] at r;rw [i, j];refine ⟨_, ⟨rfl, rfl⟩, yL (t.trans ?_) u r⟩;exact ((f.filter _).append_right _).trans (LR o c.len);rw [Qab d, Qab d, Qab d];refine iH (a3I b a ls now c.len n (by simpa using d)) fun v B g => ?_;obtain ⟨rfl, rfl⟩ := g;exact ⟨_, ⟨rfl, rfl⟩, yL f l c⟩
def mm (ls : List Li) : List Li := match jK ls with | some n => s7 ls n | none => ls
theorem a3S {ls now} (h : VOk ls now) : VOk (mm ls) now := by
 unfold mm
 cases q : jK ls with
 | none => exact h
 | some n => exact h.take (yK q).1
theorem a3T b ls now : sQ W0 161 [pV b] (nP b (ls, now) :: R) (.tuple #[iQ ((jK ls).getD 0), .bool (jK ls).isSome]) (nP b (mm ls, now) :: R) := by
 refine LU fun d t D l => ?_;have P : d.length ≤ 8 := by rw [t.length_eq]; exact LP ls
 have F := a3S l;refine am func161 ntmps161 ?_;refine ew 1 (ao call193 (LN b d ls now l.len)) ?_;refine dj rfl rfl rfl (fun g => ?_) fun g => ?_
 first | exact absurd g (by decide) | cases g
 refine aw ?_;refine ah (ao call232 (LK b d (dY ls now))) ?_;refine ai (fun G => ?_) fun G => ?_;refine aA ?_;have Q : d = [] := Qbd.1 (by omega);have J : jK ls = none := a3P l (by simp_all);have v : mm ls = ls := by grind [mm]
 rw [J, v];exact ⟨_, ⟨rfl, rfl⟩, yL t D l⟩;refine aG rfl (ao Cv (a3z b d (dY ls now) (by omega) (fun e => by subst e; exact G rfl) D)) ?_;rintro _ S ⟨x, i, rfl, A, H, K, u⟩;obtain rfl := A.symm;obtain ⟨n, w, L, rfl⟩ := Fl.1 ((H.trans t).mem_iff.1 (show x ∈ i ++ [x] by simp));have q : jK ls = some n := LS l w L fun k M C => u _ (t.mem_iff.2 (Fl.2 ⟨k, M, C, rfl⟩));have v : mm ls = s7 ls n := by grind [mm]
 rw [v] at F;have r : i.Perm (lS (s7 ls n)) := by
  have N := (LO H (n := (n : Int)) rfl (LV t)).trans (t.filter _);have I := LR (x := ⟨false, (ls.getD n default).m, (ls.getD n default).p, (ls.getD n default).s, (ls.getD n default).hs⟩) w l.len;rw [show s6 (n : Int) ⟨false, (ls.getD n default).m, (ls.getD n default).p, (ls.getD n default).s, (ls.getD n default).hs⟩ = [] from rfl, Qaw] at I;exact N.trans I
 refine aa (sK Nt (fun _ h => by cases h) rfl) ?_;refine bi fun O => ?_;refine av aB ?_;refine xX (b := b) (T := 229) (E := 317) (sz := 3) (f := i3) (o := 32) fun a c U => ?_;refine bc [O] 8 fun z => ?_;refine aj 0 5 z ?_;refine az 5 z (eL w) ?_;refine aj 6 1 z ?_;refine cj 7 (du (by grind) (Fh (j := 0) (y := ⟨false, (ls.getD n default).m, (ls.getD n default).p, (ls.getD n default).s, (ls.getD n default).hs⟩) l.len w (by decide) rfl)) fun z => ?_;refine aK ?_;refine aA ?_;rw [q, v];refine ⟨_, ⟨rfl, rfl⟩, ?_⟩;refine Ent.trans (B := eI b (i, dY (s7 ls n) now) :: R) (nH rfl rfl (by rw [yJ (by simp [s7, l.len])]; decide) rfl) ?_;exact yL r K F
structure TIt where
  d : Int
  s : Int
  i : Int
  hs : 0 ≤ s ∧ s < 10000000000000000000
instance : Hk TIt where
  default := ⟨0, 0, 0, by decide⟩
  ky := fun x => x.s + x.d * 100000000000000000000
@[reducible] def ic (x : TIt) : List Value := [.int .i64 x.d, .int .i64 x.s, .int .i64 x.i]
theorem lT x : (ic x).length = 3 := rfl
theorem a3U (its : List TIt) sp i j (a : i < its.length) (b : j < 3) : (its.flatMap ic ++ sp)[i * 3 + j]? = (ic (its.getD i default))[j]? := by
 simp_all [mF, lT, List.getD]
theorem uW (its : List TIt) sp i (a : i < its.length) : ((its.flatMap ic ++ sp).drop (i * 3)).take 3 = ic (its.getD i default) := by
 simp_all [rC, lT, List.getD]
theorem Bw (its : List TIt) sp i x (a : i < its.length) : dk (its.flatMap ic ++ sp) (i * 3) (ic x) = (its.set i x).flatMap ic ++ sp := vD lT its i x sp a
theorem Bz (its : List TIt) sp i (a : i < its.length) : i * 3 + 3 ≤ (its.flatMap ic ++ sp).length := by
 rw [Qae, cQ lT]; omega
theorem LX {its : List TIt} {i} (h : i < its.length) : its ≠ [] := fun e => by rw [e] at h; simp at h
abbrev fJ : Nat → List TIt × List Value → HP := nG 256 262 3 ic 0
abbrev lD (b : Nat) : Value := .pointer (some ⟨b, 0, none⟩)
theorem LY b its cs : sQ W0 230 [lD b] (fJ b (its, cs) :: R) (iQ its.length) (fJ b (its, cs) :: R) := by
 refine t8 fun a c d => ?_;refine am func230 ntmps230 ?_;refine aa (aF (aJ (fe d))) ?_;refine ae ?_;exact ⟨_, ⟨rfl, rfl⟩, nH rfl rfl d rfl⟩
theorem LZ (x y : TIt) : sQ W0 495 [.agg #[iQ x.d, iQ x.s], .agg #[iQ y.d, iQ y.s]] R (.bool (decide (Hk.ky x < Hk.ky y))) R := by
 have a : Hk.ky x = x.s + x.d * 100000000000000000000 := rfl;have b : Hk.ky y = y.s + y.d * 100000000000000000000 := rfl;have c := x.hs;have e := y.hs;refine am func495 ntmps495 ?_;refine bA fun c => ?_;refine bA fun e => ?_;refine ai (fun f => ?_) fun f => ?_;refine ae ?_;rw [a, b];refine ⟨_, ⟨Qak Value.bool ?_, rfl⟩, IO⟩;rw [Qag, Qaj, Qaj];have : x.d ≠ y.d := by omega
 omega;refine ae ?_;rw [a, b];refine ⟨_, ⟨Qak Value.bool ?_, rfl⟩, IO⟩;rw [Qag, Qaj, Qaj];have : x.d = y.d := by omega
 omega
theorem a3V b its cs (i k : Nat) (f : i < its.length) (hk : k < its.length) : sQ W0 491 [lD b, iQ i, iQ k] (fJ b (its, cs) :: R) (.bool (decide (Hp.us its i < Hp.us its k))) (fJ b (its, cs) :: R) := by
 refine qJ lT (LX f) (by decide) fun g c m e n o p => ?_;obtain ⟨x, q⟩ : ∃ x, its.getD i default = x := ⟨_, rfl⟩
 obtain ⟨y, r⟩ : ∃ y, its.getD k default = y := ⟨_, rfl⟩
 have h := Qak (fun l => l.take 2) (uW its m i f);have j := Qak (fun l => l.take 2) (uW its m k hk);rw [q, List.take_take] at h;rw [r, List.take_take] at j;rw [show Hp.us its i = Hk.ky x by rw [Hp.us, q], show Hp.us its k = Hk.ky y by rw [Hp.us, r]];refine am func491 ntmps491 ?_;refine bc [b, g] 18 fun a => ?_;refine aj 0 3 a ?_;refine az 3 a (aF (cp (k := 0) rfl (fe e))) ?_;refine aj 4 1 a ?_;refine az 5 a (bI f) ?_;refine aj 6 1 a ?_;refine aj 8 3 a ?_;refine az 11 a (aF (cp (k := 0) rfl (fe e))) ?_;refine aj 12 1 a ?_;refine az 13 a (bI hk) ?_;refine aj 14 1 a ?_;refine fP (is := [7, 15]) (by kernel_rfl) rfl ⟨?_, ?_, trivial⟩;refine dL (dP (dt (cJ (vs := [iQ x.d, iQ x.s]) h rfl))) ?_; clear a;rintro _ _ ⟨rfl, rfl⟩;refine ⟨aV, fun a => ?_⟩;refine bG 15 (dP (dt (cJ (vs := [iQ y.d, iQ y.s]) j rfl))) fun a => ?_;refine bG 16 (aC call495 (LZ x y)) fun a => ?_;refine aj 17 1 a ?_;refine aK ?_;refine ae ?_;exact ⟨_, ⟨rfl, rfl⟩, kI lT rfl rfl e rfl n o p⟩;skip;refine dL (dP (dt (cJ (vs := [iQ y.d, iQ y.s]) j rfl))) ?_; clear a;rintro _ _ ⟨rfl, rfl⟩;refine ⟨aV, fun a => ?_⟩;refine bG 7 (dP (dt (cJ (vs := [iQ x.d, iQ x.s]) h rfl))) fun a => ?_;refine bG 16 (aC call495 (LZ x y)) fun a => ?_;refine aj 17 1 a ?_;refine aK ?_;refine ae ?_;exact ⟨_, ⟨rfl, rfl⟩, kI lT rfl rfl e rfl n o p⟩
theorem a3W b its cs (i k : Nat) (e : i < its.length) (hk : k < its.length) : sQ W0 494 [lD b, iQ i, iQ k] (fJ b (its, cs) :: R) (.tuple #[]) (fJ b (Hp.swapL its i k, cs) :: R) := by
 refine qJ lT (LX e) (by decide) fun g c d f l j h => ?_;refine am func494 ntmps494 ?_;refine bc [b] 28 fun a => ?_;refine aj 0 3 a ?_;refine az 3 a (aF (cp (k := 0) rfl (fe f))) ?_;refine aj 4 4 a ?_;refine az 8 a (aF (cp (k := 0) rfl (fe f))) ?_;refine aj 9 4 a ?_;refine az 13 a (aF (cp (k := 0) rfl (fe f))) ?_;refine aj 14 1 a ?_;refine az 15 a (bI hk) ?_;refine aj 17 3 a ?_;refine az 20 a (aF (cp (k := 0) rfl (fe f))) ?_;refine aj 21 1 a ?_;refine az 22 a (bI e) ?_;refine fP (is := [16, 23]) (by kernel_rfl) rfl ⟨?_, ?_, trivial⟩;refine dL (dP (dt (cJ (uW its d k hk) rfl))) ?_; clear a;rintro _ _ ⟨rfl, rfl⟩;refine ⟨aV, fun a => ?_⟩;refine bG 23 (dP (dt (cJ (uW its d i e) rfl))) fun a => ?_;refine az 24 a (bI e) ?_;refine cj 25 (iK (Bz its d i e) (Bw its d i (its.getD k default) e)) fun a => ?_;refine az 26 a (bI hk) ?_;refine cj 27 (iK (Bz (its.set i (its.getD k default)) d k (by grind)) (Bw (its.set i (its.getD k default)) d k (its.getD i default) (by grind))) fun a => ?_;refine aK ?_;refine bK (.inr rfl) .nil ?_;exact ⟨_, ⟨rfl, rfl⟩, kI lT rfl rfl f (by simp [Hp.swapL]) (by omega) j (by rw [Qae, cQ lT] at h ⊢; simpa [Hp.swapL] using h)⟩;skip;refine dL (dP (dt (cJ (uW its d i e) rfl))) ?_; clear a;rintro _ _ ⟨rfl, rfl⟩;refine ⟨aV, fun a => ?_⟩;refine bG 16 (dP (dt (cJ (uW its d k hk) rfl))) fun a => ?_;refine az 24 a (bI e) ?_;refine cj 25 (iK (Bz its d i e) (Bw its d i (its.getD k default) e)) fun a => ?_;refine az 26 a (bI hk) ?_;refine cj 27 (iK (Bz (its.set i (its.getD k default)) d k (by grind)) (Bw (its.set i (its.getD k default)) d k (its.getD i default) (by grind))) fun a => ?_;refine aK ?_;refine bK (.inr rfl) .nil ?_;exact ⟨_, ⟨rfl, rfl⟩, kI lT rfl rfl f (by simp [Hp.swapL]) (by omega) j (by rw [Qae, cQ lT] at h ⊢; simpa [Hp.swapL] using h)⟩
theorem a3X b its x cs : sQ W0 492 [lD b] (fJ b (its ++ [x], cs) :: R) (.iface 262 (.agg (ic x).toArray)) (fJ b (its, cs) :: R) := by
 refine qJ lT (by simp) (by decide) fun g c d a i e j => ?_;have k : (its ++ [x]).length = its.length + 1 := by simp
 rw [k] at i ⊢;have l : (its ++ [x]).getD its.length default = x := by grind
 have f := uW (its ++ [x]) d its.length (by omega);rw [l] at f;have h : (its ++ [x]).flatMap ic ++ d = its.flatMap ic ++ (ic x ++ d) := by simp
 refine am func492 ntmps492 ?_;refine aa (aF (aJ (fe a))) ?_;refine aa (jo rfl rfl (by rw [bS (by simp only [maxLen] at e; omega)]; omega : IntKind.wrap .i64 (((its.length + 1 : Nat) : Int) - 1) = ((its.length : Nat) : Int))) ?_;refine aa (aF (aJ (fe a))) ?_;refine aa (bI (by omega)) ?_;refine aa (dt (cJ f rfl)) ?_;refine bi fun m => ?_;refine av aB ?_;refine aa (aF (aJ (fe a))) ?_;refine aa (oM wR Cc rfl rfl rfl (by omega)) ?_;refine av (du (by rw [Qam]; exact a) set_set) ?_;refine ae ?_;rw [h];exact ⟨_, ⟨rfl, rfl⟩, kI (sp := ic x ++ d) lT rfl rfl a rfl (by omega) e (by rw [← h]; exact j)⟩
theorem a3Y b its x cs (k : its.length < 1000) : sQ W0 493 [lD b, .iface 262 (.agg (ic x).toArray)] (fJ b (its, cs) :: R) (.tuple #[]) (fJ b (its ++ [x], cs) :: R) := by
 refine t8 fun a c e => ?_;have f : its.flatMap ic ++ [ic x].flatten = (its ++ [x]).flatMap ic := by simp
 refine kS func493 ntmps493 rfl rfl ?_;refine bc [] 12 fun d => ?_;refine aj 0 4 d ?_;refine aj 5 1 d ?_;refine az 6 d (sK Gd (fun _ h => by cases h) rfl) ?_;refine fP (is := [4, 7]) (by kernel_rfl) rfl ⟨?_, ?_, trivial⟩;refine dL (dP (aF (aJ (fe e)))) ?_; clear d;rintro _ _ ⟨rfl, rfl⟩;refine ⟨aV, fun d => ?_⟩;refine lN 7 (by kernel_rfl) rfl rfl (j0 wR Cc Gk rfl (fR rfl rfl iG) rfl (by decide) (by decide) (by decide)) rfl ?_; clear d;rintro _ _ ⟨g, rfl, rfl⟩;refine ⟨aV, fun d => ?_⟩;refine bX 8 (eW (sz := 3) (by_ := 24) (info := Tryz.t262) wR (by kernel_rfl) rfl rfl rfl rfl (by decide) rfl rfl eK rfl rfl (by simp only [maxLen]; omega) (by omega)) ?_; clear d;rintro _ _ ⟨i, j, rfl, rfl⟩;refine ⟨aV, fun d => ?_⟩;refine aj 9 2 d ?_;refine cj 11 (du (by grind) set_set) fun d => ?_;refine gC ?_;refine bK (.inr rfl) .nil ?_;exact ⟨_, ⟨rfl, rfl⟩, nH (its := its ++ [x]) f rfl e (by simp)⟩;skip;refine mD rfl rfl (j0 wR Cc Gk rfl (fR rfl rfl iG) rfl (by decide) (by decide) (by decide)) rfl ?_; clear d;rintro _ _ ⟨g, rfl, rfl⟩;refine ⟨aV, fun d => ?_⟩;refine bG 4 (dP (aF (aJ (fe e)))) fun d => ?_;refine bX 8 (eW (sz := 3) (by_ := 24) (info := Tryz.t262) wR (by kernel_rfl) rfl rfl rfl rfl (by decide) rfl rfl eK rfl rfl (by simp only [maxLen]; omega) (by omega)) ?_; clear d;rintro _ _ ⟨i, j, rfl, rfl⟩;refine ⟨aV, fun d => ?_⟩;refine aj 9 2 d ?_;refine cj 11 (du (by grind) set_set) fun d => ?_;refine aK ?_;refine bK (.inr rfl) .nil ?_;exact ⟨_, ⟨rfl, rfl⟩, nH (its := its ++ [x]) f rfl e (by simp)⟩
section
variable (w : World) (a : Addr)
theorem a3Z : (method (Tryz.prog.types.size + Made.depth) 258 (.pointer (some a)) "Len").run Tryz.prog w = .ok (230, .pointer (some a)) w := by kernel_rfl
theorem a30 : (method (Tryz.prog.types.size + Made.depth) 258 (.pointer (some a)) "Less").run Tryz.prog w = .ok (491, .pointer (some a)) w := by kernel_rfl
theorem a31 : (method (Tryz.prog.types.size + Made.depth) 258 (.pointer (some a)) "Swap").run Tryz.prog w = .ok (494, .pointer (some a)) w := by kernel_rfl
theorem a32 : (method (Tryz.prog.types.size + Made.depth) 258 (.pointer (some a)) "Push").run Tryz.prog w = .ok (493, .pointer (some a)) w := by kernel_rfl
theorem a33 : (method (Tryz.prog.types.size + Made.depth) 258 (.pointer (some a)) "Pop").run Tryz.prog w = .ok (492, .pointer (some a)) w := by kernel_rfl
end
def M0 (W0 : World) (b : Nat) (cs : List Value) : HpO W0 TIt where
  T := 258
  p := lD b
  el := fun x => .iface 262 (.agg (ic x).toArray)
  H := fun l => fJ b (l, cs)
  fL := 230
  fE := 491
  fS := 494
  fU := 493
  fO := 492
  mL := fun u => a3Z u _
  mE := fun u => a30 u _
  mS := fun u => a31 u _
  mU := fun u => a32 u _
  mO := fun u => a33 u _
  cL := call230
  cE := call491
  cS := call494
  cU := call493
  cO := call492
  sL := fun R l => LY b l cs
  sE := fun R l i j hi hj => a3V b l cs i j hi hj
  sS := fun R l i j hi hj => a3W b l cs i j hi hj
  sU := fun R l x hl => a3Y b l x cs hl
  sO := fun R l x => a3X b l x cs
theorem a34 b its x cs (c : its.length < 900) (d : Hp.Heap its its.length) : sP W0 149 [.iface 258 (lD b), .iface 262 (.agg (ic x).toArray)] (fJ b (its, cs) :: R) (fun v B => v = .tuple #[] ∧ ∃ a, B = fJ b (a, cs) :: R ∧ a.Perm (its ++ [x]) ∧ Hp.Heap a a.length) :=
  Hp.heapPush_spec (M0 W0 b cs) R its x c d
theorem a35 b its cs (c : its.length < 900) (d : its ≠ []) (e : Hp.Heap its its.length) : sP W0 196 [.iface 258 (lD b)] (fJ b (its, cs) :: R) (fun v B => ∃ x a, v = .iface 262 (.agg (ic x).toArray) ∧ B = fJ b (a, cs) :: R ∧ (a ++ [x]).Perm its ∧ Hp.Heap a a.length ∧ ∀ y ∈ its, Hk.ky x ≤ Hk.ky y) :=
  Hp.heapPop_spec (M0 W0 b cs) R its c d e
def fK (us : List Bool) (now : Int) : List Value := .slice none 0 0 :: (us.map Value.bool ++ [.int .i64 now, .bool true])
theorem yM {us now} (h : us.length = 4) : (fK us now).length = 7 := by
 simp [fK, h]
theorem a36 {us now} (h : us.length = 4) : (fK us now)[6]? = some (.bool true) := by
 obtain ⟨a, b, c, d, rfl⟩ : ∃ a b c d, us = [a, b, c, d] := by
  match us, h with
  | [a, b, c, d], _ => exact ⟨a, b, c, d, rfl⟩
 rfl
theorem M1 {us now} (h : us.length = 4) : (fK us now)[5]? = some (iQ now) := by
 obtain ⟨a, b, c, d, rfl⟩ : ∃ a b c d, us = [a, b, c, d] := by
  match us, h with
  | [a, b, c, d], _ => exact ⟨a, b, c, d, rfl⟩
 rfl
theorem a37 {us now} (h : us.length = 4) j v (e : (us.map Value.bool)[j]? = some v) : (fK us now)[1 + j]? = some v := by
 obtain ⟨a, b, c, d, rfl⟩ : ∃ a b c d, us = [a, b, c, d] := by
  match us, h with
  | [a, b, c, d], _ => exact ⟨a, b, c, d, rfl⟩
 match j, e with
 | 0, e => exact e
 | 1, e => exact e
 | 2, e => exact e
 | 3, e => exact e
 | j + 4, e => cases e
theorem a38 {us now x v} (h : us.length = 4) : ((fK us now).set 0 v).set 5 (iQ x) = (fK us x).set 0 v := by
 obtain ⟨a, b, c, d, rfl⟩ : ∃ a b c d, us = [a, b, c, d] := by
  match us, h with
  | [a, b, c, d], _ => exact ⟨a, b, c, d, rfl⟩
 rfl
theorem M3 {us now v u n} (h : us.length = 4) (e : n < 4) : ((fK us now).set 0 v).set (1 + n * 1) (.bool u) = (fK (us.set n u) now).set 0 v := by
 obtain ⟨a, b, c, d, rfl⟩ : ∃ a b c d, us = [a, b, c, d] := by
  match us, h with
  | [a, b, c, d], _ => exact ⟨a, b, c, d, rfl⟩
 match n, e with
 | 0, _ => rfl
 | 1, _ => rfl
 | 2, _ => rfl
 | 3, _ => rfl
theorem BA b its us now (h : us.length = 4) : sQ W0 147 [lD b] (fJ b (its, fK us now) :: R) (.bool false) (fJ b (its, fK us now) :: R) := by
 refine am func147 ntmps147 ?_;refine dj rfl rfl rfl (fun a => ?_) fun a => ?_;cases a;refine aw ?_;refine aa (aF (xY (b := b) (T := 256) (E := 262) (sz := 3) (f := ic) (o := 0) (by decide) (a36 h))) ?_;exact ae ap
def l7 : List Bool → Option Nat
 | [] => none
 | u :: us => if u then (l7 us).map (· + 1) else some 0
theorem M4 {us k} (hk : k < us.length) (h1 : ∀ j, j < k → us.getD j false = true) (h2 : us.getD k false = false) : l7 us = some k := by
 induction us generalizing k with
 | nil => exact absurd hk (Qcc k)
 | cons u us ih =>
  match k with
  | 0 => rw [l7, Qab (by grind)]
  | k + 1 =>
   have h0 : u = true := h1 0 (Nat.succ_pos k)
   rw [l7, Qad h0, ih (by simpa using hk) (fun j hj => by simpa using h1 (j + 1) (by omega)) (by grind)]
   rfl
theorem a39 {us} (h1 : ∀ j, j < us.length → us.getD j false = true) : l7 us = none := by
 induction us with
 | nil => rfl
 | cons u us ih =>
  have h0 : u = true := h1 0 (by simp)
  rw [l7, Qad h0, ih (fun j hj => by simpa using h1 (j + 1) (by grind))]
  rfl
theorem M5 {a k} (h : l7 a = some k) : k < a.length := by
 induction a generalizing k with
 | nil => cases h
 | cons u a c =>
  rw [l7] at h;by_cases d : u = true;rw [Qad d] at h
  cases b : l7 a with
  | none => rw [b] at h; cases h
  | some q => rw [b] at h; have := c b; cases h; simpa using this
  grind
theorem M6 b its us now (h : us.length = 4) : sQ W0 148 [lD b] (fJ b (its, fK us now) :: R) (.tuple #[iQ ((l7 us).getD 0), .bool (l7 us).isSome]) (fJ b (its, fK us now) :: R) := by
 obtain ⟨g, i, l, m, rfl⟩ : ∃ a b c d, us = [a, b, c, d] := by
  match us, h with
  | [a, b, c, d], _ => exact ⟨a, b, c, d, rfl⟩
 refine am func148 ntmps148 ?_
 refine aa (dt (LM (T := 256) (E := 262) (sz := 3) (f := ic) (o := 0) (vs := [.bool g, .bool i, .bool l, .bool m]) fun j v r => ⟨by omega, a37 h j v r⟩)) ?_
 refine d7 (fun k : Nat => k ≤ 4 ∧ ∀ j, j < k → [g, i, l, m].getD j false = true) (fun k => [(0, lD b), (9, .agg ([g, i, l, m].map Value.bool).toArray), (10, iQ k)]) (fun _ => fJ b (its, fK [g, i, l, m] now) :: R) (fun k => 4 - k) 0 ?_ ?_
 grind
 intro k ⟨x, q⟩
 refine aw ?_
 refine ai (fun s => ?_) fun s => ?_
 have n : k < 4 := by omega
 obtain ⟨u, y⟩ : ∃ u, [g, i, l, m].getD k false = u := ⟨_, rfl⟩
 have p : ([g, i, l, m].map Value.bool)[k]? = some (.bool u) := by
  grind
 refine aa (II Nr gO nj rfl rfl rfl n p) ?_
 refine ai (fun t => ?_) fun t => ?_
 refine aA ?_
 have e := M4 (us := [g, i, l, m]) (k := k) (by omega) q (by grind)
 refine aI ?_
 rw [e]; rfl
 refine aa co ?_
 refine bM (k + 1) ?_
 grind
 refine aA ?_
 have e := a39 (us := [g, i, l, m]) fun j w => q j (by omega)
 refine aI ?_
 rw [e]; rfl
theorem a4a b its us now (h : us.length = 4) d (c : d < 0) : sQ W0 70 [lD b, iQ d] (fJ b (its, fK us now) :: R) (.tuple #[iQ 0, iQ 1]) (fJ b (its, fK us now) :: R) := by
 refine am Oh ntmps70 ?_;refine ah (ao GP (BA b its us now h)) ?_;refine aD rfl (fun a => ?_) fun a => ?_;refine au 9 ?_;exact aA ap;omega
theorem a4b b its us now (h : us.length = 4) d (f : 0 ≤ d) (c : l7 us = none) : sQ W0 70 [lD b, iQ d] (fJ b (its, fK us now) :: R) (.tuple #[iQ 0, iQ 2]) (fJ b (its, fK us now) :: R) := by
 refine am Oh ntmps70 ?_;refine ah (ao GP (BA b its us now h)) ?_;refine aD rfl (fun e => ?_) fun e => ?_;omega;refine aw ?_;refine ku (ao call148 (M6 b its us now h)) ?_;rw [c];refine aw ?_;refine ai (fun a => ?_) fun a => ?_;exact aA ap;exact absurd (by decide) a
theorem a4c b its us now (h : us.length = 4) d (x : 0 ≤ d) k (r : l7 us = some k) (y : its.length < 800) (t : Hp.Heap its its.length) hb (u : 0 ≤ now ∧ now < 4611686018427387904) : sP W0 70 [lD b, iQ d] (fJ b (its, fK us now) :: R) (fun v B => v = .tuple #[iQ k, iQ 0] ∧ ∃ e, B = fJ b (e, fK (us.set k true) (now + 1)) :: R ∧ e.Perm (its ++ [⟨d, now + 1, k, hb⟩]) ∧ Hp.Heap e e.length) := by
 have j : k < 4 := by rw [← h]; exact M5 r
 refine am Oh ntmps70 ?_;refine ah (ao GP (BA b its us now h)) ?_;refine aD rfl (fun w => ?_) fun w => ?_;omega;refine aw ?_;refine ku (ao call148 (M6 b its us now h)) ?_;rw [r, Option.getD_some, Option.isSome_some];refine au 14 ?_;refine aD rfl (fun s => ?_) fun s => ?_;exact absurd s (by decide);refine au 3 ?_;refine xX (b := b) (T := 256) (E := 262) (sz := 3) (f := ic) (o := 0) fun a c z => ?_;refine aY (ac rfl (aM rfl) (ac rfl (ik rfl) ?_));refine ac rfl (cD rfl a7G rfl aR rfl (by first | exact Qac _ | rfl)) ?_;refine ac rfl (cg db rfl (aJ (by rw [QaP (by decide)]; exact M1 h))) ?_;refine aa co ?_;refine av (du (by grind [Qam, yM]) (a38 h)) ?_;refine aa (eL j) ?_;refine av (du (by grind [yM]) (M3 h j)) ?_;refine dr (B := fJ b (its, fK (us.set k true) (now + 1)) :: R) (nH rfl rfl (by grind [yM]) rfl) ?_;have g : ∀ l : List TIt, bF (aT W0 (fJ b (l, fK (us.set k true) (now + 1)) :: R)) b 5 [iQ (now + 1)] := fun l => E7 (its := l) (T := 256) (E := 262) (sz := 3) (f := ic) (o := 0) (by decide) (M1 (by simp [h]));refine eV [(b, 5, [iQ (now + 1)])] 14 mixed rfl (bU (g _) bE) (fun i => ?_);refine aj 0 8 i ?_;refine az 8 i (aF (ko (k := 0) rfl)) ?_;refine aj 9 2 i ?_;refine az 11 i (fB Gd Gk (aL Ng (aL aR fA)) (kj rfl Ng rfl rfl (Qaa rfl) SetRL.eq (bW rfl aR rfl rfl (Qaa rfl) SetL.eq fz))) ?_;refine aj 12 1 i ?_;refine bX 13 (ao Cu (a34 b its ⟨d, now + 1, k, hb⟩ (fK (us.set k true) (now + 1)) (by omega) t)) ?_; clear i;rintro _ A ⟨rfl, m, n, p, q⟩;obtain rfl := n.symm;refine ⟨(bU (g _) bE), fun i => ?_⟩;refine aK ?_;refine aA ?_;exact ⟨_, ⟨rfl, m, rfl, p, q⟩, IO⟩
theorem a4d {W0 N K e R A T E sz o b α f} {its : List α} {cs} [hk : Tk (nG T E sz f o) b A (its, cs) R] (k : ∀ x, (f x).length = sz) (l : its ≠ []) (t : 0 < sz)
    (h : ∀ g c d, o < cs.length → its.length ≤ c → c ≤ maxLen → (its.flatMap f ++ d).length = c * sz → ax W0 N K e (pt b (ag (cs.set o (.slice (some ⟨g, 0, none⟩) its.length c)) T) :: pt g (ag (its.flatMap f ++ d) E) :: R)) : ax W0 N K e A :=
  xX (b := b) (T := T) (E := E) (sz := sz) (f := f) (o := o) fun a c m => gk (r := osl E sz) (b := .slice a its.length c) (kt (fun _ i => by
      have := cQ k its;rw [i] at this;have j : its.length = 0 := by
        grind
      exact absurd (Qbd.1 j) l) fun g n p d q i j u s => by
    cases q
    exact pF (List.Perm.swap _ _ _) (h g c d m i j s))
structure TOk (us : List Bool) (now : Int) (ti : List TIt) : Prop where
  len : us.length = 4
  nn : (ti.length : Int) ≤ now
  id : ∀ x ∈ ti, 0 ≤ x.i ∧ x.i < 4
structure Tm where
  us : List Bool
  now : Int
  ti : List TIt
def nQ (b : Nat) (x : Tm) : HP := chk (fun C => ∃ its : List TIt, its.Perm x.ti ∧ Hp.Heap its its.length ∧ TOk x.us x.now x.ti ∧ C = [fJ b (its, fK x.us x.now)])
section
variable {P : Program} {W0 : World} {N : FSz} {K : Act → World → Prop} {e : b0} {A R B : List HP} {b : Nat} {x : Tm} {f : FuncId} {args : List Value} {Post : Value → List HP → Prop}
theorem M7 (h : ∀ a, a.Perm x.ti → Hp.Heap a a.length → TOk x.us x.now x.ti → bH P W0 f args (fJ b (a, fK x.us x.now) :: R) Post) : bH P W0 f args (nQ b x :: R) Post :=
  qq fun C c => by obtain ⟨a, d, e, g, rfl⟩ := c; exact h a d e g
theorem yN {its ti us now} [h : Tk fJ b A (its, fK us now) R] (a : its.Perm ti) (c : Hp.Heap its its.length) (d : TOk us now ti) [k : Ent R B] : Ent A (nQ b ⟨us, now, ti⟩ :: B) :=
  (Ent.ofPerm h.perm).trans ((Ent.cons k).trans (g5 (R := B) (C := [_]) ⟨its, a, c, d, rfl⟩))
theorem a4e : Ent (pt b (ag ((fK [false, false, false, false] 0).set 0 ek) 256) :: R) (nQ b ⟨[false, false, false, false], 0, []⟩ :: R) := by
 have e : Ent (pt b (ag ((fK [false, false, false, false] 0).set 0 ek) 256) :: R) (fJ b ([], fK [false, false, false, false] 0) :: R) :=
   (Ent.cons (fQ (E := 262) (sz := 3) (A := R) (B := R))).trans (g5 (R := R) (C := [_, _]) ⟨by decide, none, 0, rfl⟩)
 exact e.trans (g5 (R := R) (C := [_]) ⟨[], QaO _, fun c a => absurd a (Qcc c), ⟨rfl, QbY _, fun x d => by cases d⟩, rfl⟩)
end
def yO (x : Tm) (d : Int) : Int := if d < 0 then 1 else if l7 x.us = none then 2 else 0
def yP (x : Tm) (d : Int) : Nat := if d < 0 then 0 else (l7 x.us).getD 0
def tG (x : Tm) (d : Int) : Tm :=
  if h : 0 ≤ d ∧ 0 ≤ x.now + 1 ∧ x.now + 1 < 10000000000000000000 then (match l7 x.us with | some k => ⟨x.us.set k true, x.now + 1, x.ti ++ [⟨d, x.now + 1, k, h.2⟩]⟩ | none => x) else x
theorem a4f b x d (o : x.now < 700) : sQ W0 70 [lD b, iQ d] (nQ b x :: R) (.tuple #[iQ (yP x d), iQ (yO x d)]) (nQ b (tG x d) :: R) := by
 obtain ⟨i, a, w⟩ := x;refine M7 fun e f j c => ?_;dsimp only at f j c o ⊢;have p : 0 ≤ a := by have := c.nn; omega
 have z := f.length_eq;by_cases g : d < 0;rw [yO, yP, tG, Qad g, Qad g, dif_neg (by omega)];refine iH (a4a b e i a c.len d g) fun v B h => ?_;obtain ⟨rfl, rfl⟩ := h;exact ⟨_, ⟨rfl, rfl⟩, yN f j c⟩;have m : 0 ≤ d ∧ 0 ≤ a + 1 ∧ a + 1 < 10000000000000000000 := by omega
 rw [yO, yP, tG, Qab g, Qab g, dif_pos m];dsimp only
 cases l : l7 i with
 | none =>
  refine iH (a4b b e i a c.len d (by omega) l) fun v B h => ?_;obtain ⟨rfl, rfl⟩ := h;exact ⟨_, ⟨rfl, rfl⟩, yN f j c⟩
 | some k =>
  have r : k < 4 := by rw [← c.len]; exact M5 l
  have := c.nn;refine iH (a4c b e i a c.len d (by omega) k l (by omega) j m.2 (by omega)) fun v B h => ?_;obtain ⟨rfl, n, rfl, s, t⟩ := h;refine ⟨_, ⟨rfl, rfl⟩, yN (s.trans (f.append_right _)) t ⟨by rw [Qam]; exact c.len, ?_, fun y u => ?_⟩⟩;grind;rcases QaZ.1 u with q | q;exact c.id y q;grind
def jk (us : List Bool) (F : List TIt) : List Bool := us.mapIdx fun j u => u && !(F.any fun x => x.i == (j : Int))
theorem tH us F : (jk us F).length = us.length := by simp [jk]
theorem a4g us : jk us [] = us := by
 apply QaS (by simp [jk]);intro i a b;simp [jk]
theorem Fo us F (i : Nat) h : (jk us F)[i]'(by rw [tH]; exact h) = (us[i] && !(F.any fun x => x.i == i)) := by simp [jk]
theorem a4h {us F x} {k : Nat} (c : x.i = (k : Int)) : (jk us F).set k false = jk us (F ++ [x]) := by
 apply QaS (by simp [jk]);intro i d e;have a : i < us.length := by grind [tH]
 have b : ((F ++ [x]).any fun y => y.i == (i : Int)) = ((F.any fun y => y.i == (i : Int)) || decide (k = i)) := by
  grind
 rw [List.getElem_set, Fo us (F ++ [x]) i a, Fo us F i a, b];by_cases q : k = i;grind;grind
theorem M8 {us F F'} (h : F.Perm F') : jk us F = jk us F' := by
 grind [jk]
def l8 (now : Int) (x : TIt) : Bool := decide (x.d ≤ now)
def tI (x : Tm) (now : Int) : Tm := ⟨jk x.us (x.ti.filter (l8 now)), x.now, x.ti.filter fun y => !l8 now y⟩
def nh (x : Tm) (now : Int) : Nat := (x.ti.filter (l8 now)).length
theorem M9 {its F d : List TIt} {now} (e : (its ++ F).Perm d) (f : ∀ y ∈ F, l8 now y = true) (g : ∀ y ∈ its, l8 now y = false) : F.Perm (d.filter (l8 now)) ∧ its.Perm (d.filter fun y => !l8 now y) := by
 have a := e.filter (l8 now);have b := e.filter (fun y => !l8 now y);rw [QbC, QcI.2 (fun y c => by rw [g y c]; decide), QaV.2 f, Qax] at a;rw [QbC, QaV.2 (fun y c => by rw [g y c]; rfl), QcI.2 (fun y c => by rw [f y c]; decide), Qaw] at b;exact ⟨a, b⟩
theorem Ma {x y : TIt} (h : Hk.ky x ≤ Hk.ky y) : x.d ≤ y.d := by
 have a : Hk.ky x = x.s + x.d * 100000000000000000000 := rfl;have b : Hk.ky y = y.s + y.d * 100000000000000000000 := rfl;have c := x.hs;have e := y.hs;omega
structure Fr29 where
  its : List TIt
  F : List TIt
  a : Option Addr
  c : Nat
theorem a4i b x now (hb : x.now < 700) : sP W0 158 [lD b, iQ now] (nQ b x :: R) (fun v B => ∃ a c, v = .slice a (nh x now) c ∧ B = nQ b (tI x now) :: R) := by
 obtain ⟨r, s, w⟩ := x;refine M7 fun A h1 h2 d => ?_;dsimp only at h1 h2 d hb ⊢;have x0 : w.length < 800 := by have := d.nn; omega
 refine am func158 ntmps158 ?_;refine ah (ao GP (BA b A r s d.len)) ?_;refine gU (fun X : Fr29 => (X.its ++ X.F).Perm w ∧ Hp.Heap X.its X.its.length ∧ ∀ y ∈ X.F, l8 now y = true) (fun X => [(0, lD b), (1, iQ now), (5, .slice X.a X.F.length X.c)]) (fun X => fJ b (X.its, fK (jk r X.F) s) :: osl 3 1 (.slice X.a X.F.length X.c) (X.F.map fun y => Value.int .i64 y.i) :: R) (fun X => X.its.length) ⟨A, [], none, 0⟩ ?_ ?_ ?_ ?_;grind
 · repeat (first | exact bC | refine bq rfl ?_)
 grind [a4g, Ent.cons, fQ];intro ⟨l, F, a, c⟩ ⟨u, C, M⟩;dsimp only at u C M ⊢;have N : (jk r F).length = 4 := by rw [tH]; exact d.len
 have O := u.length_eq;rw [Qae] at O;refine aw ?_;refine ah (ao call230 (LY b l (fK (jk r F) s))) ?_;refine ci (fun m => ?_) fun m => ?_;have n : l ≠ [] := fun e => by rw [e] at m; exact absurd m (by decide)
 have p : 0 < l.length := Qcy.2 n;have D := a3U l;refine a4d (b := b) (T := 256) (E := 262) (sz := 3) (f := ic) (o := 0) lT n (by decide) fun g cc sp P k1 k2 k3 => ?_;refine aw ?_;refine aa (aF (aJ (fe P))) ?_;refine aa (iF wR Cc rfl rfl (i := 0) rfl p (by first | exact Qac _ | rfl)) ?_;refine aa (aF (aJ (D sp 0 0 p (by decide)))) ?_;refine ai (fun Q => ?_) fun Q => ?_;refine dr (B := fJ b (l, fK (jk r F) s) :: osl 3 1 (.slice a F.length c) (F.map fun y => Value.int .i64 y.i) :: R) (kI lT rfl rfl P rfl k1 k2 k3) ?_;refine aw ?_;refine aG rfl (ao Cv (a35 b l (fK (jk r F) s) (by omega) n C)) ?_;rintro _ B_ ⟨y, G, rfl, S, t, U, H⟩;obtain rfl := S.symm;have V : y ∈ l := t.mem_iff.1 (by simp);have W : y ∈ w := u.mem_iff.1 (List.mem_append_left _ V);have x2 := d.id y W;obtain ⟨k, hk⟩ : ∃ k : Nat, y.i = (k : Int) := ⟨y.i.toNat, by omega⟩
 have I : k < 4 := by omega
 have x1 : l8 now y = true := by
  have := H (l.getD 0 default) (by
    rw [Qau, QaR p]
    exact QaF p)
  exact Qah (Int.le_trans (Ma this) Q)
 refine aa (sK Gd (fun _ h => by cases h) rfl) ?_;refine bi fun b6 => ?_;refine av aB ?_;refine xX (b := b) (T := 256) (E := 262) (sz := 3) (f := ic) (o := 0) fun a2 c2 x3 => ?_;refine bc [b6] 7 fun Y => ?_;refine aj 0 5 Y ?_;refine az 5 Y (fN Nr gO rfl rfl hk I (by first | exact Qac _ | rfl)) ?_;refine cj 6 (du (by grind [Qam, yM]) ((M3 N I).trans (by rw [a4h hk]))) fun Y => ?_;refine aK ?_;refine dr (B := fJ b (G, fK (jk r (F ++ [y])) s) :: pt b6 (ag (ic y) 262) :: osl 3 1 (.slice a F.length c) (F.map fun y => Value.int .i64 y.i) :: R) (nH rfl rfl (by grind [yM, tH]) rfl) ?_;refine aw ?_;refine dK (kl fZ aR np rfl rfl rfl rfl rfl (by decide) (by decide)) fun b2 => ?_;refine aG rfl (eW (sz := 1) (by_ := 8) (info := Tryz.t3) fZ (by kernel_rfl) rfl rfl rfl rfl (by decide) rfl rfl eK rfl rfl (by simp only [maxLen]; omega) (by omega)) ?_;rintro _ _ ⟨a3, c3, rfl, rfl⟩;refine aw ?_;refine xa ⟨G, F ++ [y], a3, c3⟩ ?_ ?_ ?_ ?_;refine ⟨?_, U, fun z L => ?_⟩;refine List.Perm.trans ?_ u;show (G ++ (F ++ [y])).Perm (l ++ F);refine List.Perm.trans ?_ (t.append_right F);rw [QaI];exact QaY.append_left G;grind;show G.length < l.length;have := t.length_eq;rw [Qae] at this;simp only [QaJ, Qbs] at this;omega
 · dsimp only
   rw [show (F ++ [y]).length = F.length + 1 by simp]
   repeat (first | exact bC | refine bq rfl ?_)
 dsimp only;rw [show (F ++ [y]).length = F.length + 1 by simp, QaG, QaL, Qcf];exact IO;refine ae ?_
 obtain ⟨J, K⟩ := M9 (now := now) u M (fun y Z => by
  refine Qal fun q => Q ?_;obtain ⟨j, hj, rfl⟩ := Qbb.1 Z;have := Hp.heap_min C j hj;rw [Hp.us, Hp.us_eq hj] at this
  exact Int.le_trans (Ma this) q)
 refine ⟨_, ⟨a, c, ?_, rfl⟩, ?_⟩;show Value.slice a _ c = Value.slice a (w.filter (l8 now)).length c;rw [J.length_eq];rw [tI, ← M8 J];refine Ent.trans (B := fJ b (l, fK (jk r F) s) :: R) (kI lT rfl rfl P rfl k1 k2 k3) ?_;exact yN K C ⟨by rw [tH]; exact d.len, by have := d.nn; have := K.length_eq; dsimp only; omega, fun z L => d.id z (QaC.1 L).1⟩;refine ae ?_;have n : l = [] := Qbd.1 (by omega);subst n;obtain ⟨J, K⟩ := M9 u M (fun y Z => by cases Z);refine ⟨_, ⟨a, c, ?_, rfl⟩, ?_⟩;show Value.slice a _ c = Value.slice a (w.filter (l8 now)).length c;rw [J.length_eq];rw [tI, ← M8 J];exact yN K C ⟨by rw [tH]; exact d.len, by have := d.nn; have := K.length_eq; dsimp only; omega, fun z L => d.id z (QaC.1 L).1⟩
structure Gu where
  c : Cpu
  qa : QS
  qb : QS
  qc : QS
  ls : List Li
  ln : Int
  tm : Tm
  halted : Bool
  rd : List Nat
  clock : Nat
  es : List Evt
  bud : Nat
structure Gz where
  x : Bd
  q0 : Nat
  q1 : Nat
  q2 : Nat
  pv : Nat
  ps : Nat
  pm : Nat
  pb : Nat
  bx : Nat
  tr : Nat
  wv : Value
  i : Nat
  c : Cfg
@[reducible] def mn (z : Gz) (g : Gu) : List Value := [pV z.x.r, pV z.x.c, pV z.x.m, pV z.q0, pV z.q1, pV z.q2, pV z.x.v, pV z.x.t, .bool g.halted, wV (bP g.rd 0), wV (bP g.rd 1), wV (bP g.rd 2), wV (bP g.rd 3)] ++ dI z.c ++ [.int .i64 z.i, z.wv, pV z.pb, pV z.pv, pV z.bx, pV z.tr, .int .i64 g.clock]
abbrev dC (z : Gz) (g : Gu) : Obj := ag (mn z g) 144
def dZ (n : Nat) : Nat := n - 1
def pX (es : List Evt) (e : Evt) : List Evt := if es.length < 4096 then es ++ [e] else es
abbrev oC (g : Gu) (k : Int) (a b p : Nat) : Gu := { g with es := pX g.es ⟨k, ((dZ g.clock : Nat) : Int), a, b, p, g.c.rl⟩ }
abbrev iO (g : Gu) (pc : Nat) : Gu := { g with c := ⟨g.c.rl, pc, g.c.cs⟩ }
abbrev fg (g : Gu) : Gu := { g with halted := true }
abbrev bZ (g : Gu) : Gu := { g with bud := g.bud + 3 }
abbrev uX (g : Gu) (cause tval : Nat) : Gu := { g with c := ⟨g.c.rl, dm g.c.cs 1, m8 g.c.cs g.c.pc cause tval⟩ }
def fX (g : Gu) (cause tval : Nat) : Int × Gu :=
  if dm g.c.cs 1 = 0 then (4, oC (fg g) 6 cause tval g.c.pc) else (1, oC (uX g cause tval) 1 cause tval g.c.pc)
def rf (c : Nat) (f : Int) : Nat := u32 ((c : Int) + ((u32 (16 * ((u32 f : Nat) : Int)) : Nat) : Int))
def oD (w : Nat) (n : Int) : Nat := if n = 1 then u32 (IntKind.wrap .i32 (IntKind.wrap .i8 (w : Int))) else if n = 2 then u32 (IntKind.wrap .i32 (IntKind.wrap .i16 (w : Int))) else w
theorem a4j {w n} (h : w < 4294967296) : oD w n < 4294967296 := by
 grind [oD, dU]
abbrev pr (g : Gu) (fr : List aE) (pg : List Pl) (a : Nat) (w k : Int) : Nat := pp fr pg (iu g.c.cs) (gY g.c.cs) (!e8 g.c.cs) a w k
abbrev pu (g : Gu) (fr : List aE) (pg : List Pl) (a : Nat) (w k : Int) : Int := lQ fr pg (iu g.c.cs) (gY g.c.cs) (!e8 g.c.cs) a w k
abbrev wF (g : Gu) (fr : List aE) (pg : List Pl) (a : Nat) (w : Int) (x : Nat) : List aE := lR fr pg (iu g.c.cs) (gY g.c.cs) (!e8 g.c.cs) a w x
abbrev Fp (g : Gu) (d v pc : Nat) : Gu := { g with c := ⟨je g.c.rl d v, pc, g.c.cs⟩ }
def pw (g : Gu) (fr : List aE) (pg : List Pl) (e : Eff) : Int × Gu :=
  if pu g fr pg e.addr e.width 1 ≠ 0 then fX (bZ g) (rf 4 (pu g fr pg e.addr e.width 1)) e.addr
  else (0, Fp (bZ g) e.d (if e.signed then oD (pr g fr pg e.addr e.width 1) e.width else pr g fr pg e.addr e.width 1) e.pc)
def px (g : Gu) (fr : List aE) (pg : List Pl) (e : Eff) : Int × Gu :=
  if pu g fr pg e.addr e.width 2 ≠ 0 then fX (bZ g) (rf 5 (pu g fr pg e.addr e.width 2)) e.addr else (0, iO (bZ g) e.pc)
def eJ (g : Gu) (fr : List aE) (pg : List Pl) (e : Eff) : (Int × Gu) × List aE :=
  if e.k = 1 then (pw g fr pg e, fr)
  else if e.k = 2 then (px g fr pg e, wF g fr pg e.addr e.width e.val)
  else if e.k = 3 then (fX g e.cause e.tval, fr)
  else if e.k = 6 then ((0, iO g e.pc), fr)
  else if e.k = 5 then ((4, oC (iO (fg g) e.pc) 4 0 0 g.c.pc), fr)
  else if e.k = 4 then ((3, g), fr)
  else ((0, g), fr)
abbrev dB (g : Gu) (c : Cpu) : Gu := { g with c := c }
def jx (i : Nat) (g : Gu) (fr : List aE) (pg : List Pl) : (Int × Gu) × List aE :=
  if pu g fr pg g.c.pc 4 0 ≠ 0 then (fX (bZ g) (rf 3 (pu g fr pg g.c.pc 4 0)) g.c.pc, fr)
  else if gX (fF (pr g fr pg g.c.pc 4 0)) = false then (fX (bZ g) 1 (pr g fr pg g.c.pc 4 0), fr)
  else eJ (dB (bZ g) (jU i (dZ g.clock) (fF (pr g fr pg g.c.pc 4 0)) g.c).2) fr pg (jU i (dZ g.clock) (fF (pr g fr pg g.c.pc 4 0)) g.c).1
abbrev iX (g : Gu) : Gu := { g with tm := tI g.tm ((dZ g.clock : Nat) : Int), ls := if nh g.tm ((dZ g.clock : Nat) : Int) = 0 then g.ls else ml g.ls g.ln 7, ln := if nh g.tm ((dZ g.clock : Nat) : Int) = 0 then g.ln else k8 g.ls g.ln 7 }
abbrev a4k (g : Gu) : Gu := { g with ls := mm g.ls }
def fY (g : Gu) : Bool × Gu :=
  if oo g.c.cs then (match jK g.ls with
    | some n => (true, oC (uX (a4k g) (256 + n) 0) 3 (256 + n) 0 g.c.pc)
    | none => (false, g)) else (false, g)
abbrev j7 (g : Gu) : Gu := { g with clock := g.clock + 1 }
def fk (i : Nat) (g : Gu) (fr : List aE) (pg : List Pl) : (Int × Gu) × List aE :=
  if g.halted then ((5, j7 g), fr)
  else if (fY (iX (j7 g))).1 then ((2, (fY (iX (j7 g))).2), fr)
  else jx i (fY (iX (j7 g))).2 fr pg
end
end Go.Proofs.YtofillmoflhijaaGreatDoor
