/-
  Part 4 of the proof of GuestSteps: rules, and walks of functions. Conditions: none.
-/
import Derived.Test.YtofillmoflhijaaGreatDoorGuestStepsC
namespace Go.Proofs.YtofillmoflhijaaGreatDoor
open Go.Proofs.Tryz
set_option linter.unusedSimpArgs false
set_option linter.unusedVariables false
set_option maxRecDepth 20000
set_option linter.defProp false
set_option synthInstance.maxSize 8192
set_option synthInstance.maxHeartbeats 2000000
variable {W0 : World} {R : List HP}
section
open Go.RowKit
def aZ (b : Nat) (x : List It × List Value) : HP := chk (fun C => ∃ a c, C = [pt b (ag (.slice a x.1.length c :: x.2) 439), osl 446 6 (.slice a x.1.length c) (x.1.flatMap bT)])
section
variable {P : Program} {W0 : World} {R A : List HP} {b : Nat} {its : List It} {tl : List Value} {f : FuncId} {args : List Value} {Post : Value → List HP → Prop}
theorem wh (h : ∀ a c, bH P W0 f args (pt b (ag (.slice a its.length c :: tl) 439) :: osl 446 6 (.slice a its.length c) (its.flatMap bT) :: R) Post) : bH P W0 f args (aZ b (its, tl) :: R) Post :=
  qq fun C d => by obtain ⟨a, c, rfl⟩ := d; exact h a c
theorem rY {a c n R1 R2 B} [d : Tk pt b A (ag (.slice a n c :: tl) 439) R1] [e : Tk (osl 446 6) (.slice a n c) R1 (its.flatMap bT) R2] (f : n = its.length) [k : Ent R2 B] : Ent A (aZ b (its, tl) :: B) := by
 subst f;exact (Ent.ofPerm (d.perm.trans (e.perm.cons _))).trans ((Ent.cons (Ent.cons k)).trans (g5 (R := B) (C := [_, _]) ⟨a, c, rfl⟩))
theorem EA (j : its ≠ []) (h : ∀ g c d, its.length ≤ c → c ≤ maxLen → (its.flatMap bT ++ d).length = c * 6 → bH P W0 f args (pt b (ag (.slice (some ⟨g, 0, none⟩) its.length c :: tl) 439) :: pt g (ag (its.flatMap bT ++ d) 446) :: R) Post) : bH P W0 f args (aZ b (its, tl) :: R) Post :=
  wh fun a c => nv (List.Perm.swap _ _ _) (xq (fun i e => by
      have := cQ iW its;rw [e] at this
      exact absurd (QaE (by grind)) j)
    (fun g n k d i e l o m => by
      cases i
      exact nv (List.Perm.swap _ _ _) (h g _ d e l m)))
theorem AU {N K e} [hk : Tk aZ b A (its, tl) R] (h : ∀ a c, ax W0 N K e (pt b (ag (.slice a its.length c :: tl) 439) :: osl 446 6 (.slice a its.length c) (its.flatMap bT) :: R)) : ax W0 N K e A :=
  gk (r := aZ) (b := b) (nu fun C d => by obtain ⟨a, c, rfl⟩ := d; exact h a c)
theorem AV {N K e} [hk : Tk aZ b A (its, tl) R] (j : its ≠ []) (h : ∀ g c d, its.length ≤ c → c ≤ maxLen → (its.flatMap bT ++ d).length = c * 6 → ax W0 N K e (pt b (ag (.slice (some ⟨g, 0, none⟩) its.length c :: tl) 439) :: pt g (ag (its.flatMap bT ++ d) 446) :: R)) : ax W0 N K e A :=
  AU (b := b) fun a c => pF (List.Perm.swap _ _ _) (kt (fun i f => by
      have := cQ iW its;rw [f] at this
      exact absurd (QaE (by grind)) j)
    (fun g n k d i f l o m => by
      cases i
      exact pF (List.Perm.swap _ _ _) (h g _ d f l m)))
theorem AW [hk : Tk aZ b A (its, tl) R] : bF (aT W0 A) b 1 tl := fun i v h w (e : Own W0 w A) => by
 obtain ⟨C, ⟨a, c, rfl⟩, d⟩ := (e.tk (r := aZ) (b := b)).chk;have f : Own W0 w (pt b (ag (.slice a its.length c :: tl) 439) :: (osl 446 6 (.slice a its.length c) (its.flatMap bT) :: R)) := d;have g : kg (aT W0 (pt b (ag (.slice a its.length c :: tl) 439) :: (osl 446 6 (.slice a its.length c) (its.flatMap bT) :: R))) b (1 + i) v := aJ (by grind);exact g w f
theorem tq {g c n xs sp R1 R2 B} [a : Tk pt b A (ag (.slice (some ⟨g, 0, none⟩) n c :: tl) 439) R1] [l : Tk pt g R1 (ag (xs ++ sp) 446) R2] (d : xs = its.flatMap bT) (f : n = its.length) (h : n ≤ c) (i : c ≤ maxLen) (j : (xs ++ sp).length = c * 6) [k : Ent R2 B] : Ent A (aZ b (its, tl) :: B) := by
 subst f;subst d;have e : Ent R1 (osl 446 6 (.slice (some ⟨g, 0, none⟩) its.length c) (its.flatMap bT) :: B) := fC h i (cQ iW its) j;exact (Ent.ofPerm a.perm).trans ((Ent.cons e).trans (g5 (R := B) (C := [_, _]) ⟨_, c, rfl⟩))
theorem EB {N K e g c n xs sp R1 R2} [j : Tk pt b A (ag (.slice (some ⟨g, 0, none⟩) n c :: tl) 439) R1] [l : Tk pt g R1 (ag (xs ++ sp) 446) R2] (a : xs = its.flatMap bT) (d : n = its.length) (f : n ≤ c) (h : c ≤ maxLen) (i : (xs ++ sp).length = c * 6)
    (k : ax W0 N K e (aZ b (its, tl) :: R2)) : ax W0 N K e A := dr (tq (b := b) a d f h i) k
end
theorem yj (its : List It) sp i j (a : i < its.length) (b : j < 6) : (its.flatMap bT ++ sp)[i * 6 + j]? = (bT (its.getD i default))[j]? := by
 rw [mF iW its i j sp a b]; simp [List.getD, a]
theorem jX (its : List It) sp i (a : i < its.length) : ((its.flatMap bT ++ sp).drop (i * 6)).take 6 = bT (its.getD i default) := by
 rw [rC iW its i sp a]; simp [List.getD, a]
theorem n0 (its : List It) sp i x (a : i < its.length) : dk (its.flatMap bT ++ sp) (i * 6) (bT x) = (its.set i x).flatMap bT ++ sp := vD iW its i x sp a
theorem a0r (its : List It) sp i (a : i < its.length) : ((its.flatMap bT ++ sp).drop (i * 6 + 2)).take 3 = [iQ (its.getD i default).ep, iQ (its.getD i default).ef, iQ (its.getD i default).er] := by
 have := Qak (fun l => (l.drop 2).take 3) (jX its sp i a);simp only [List.drop_take, List.take_take, QcQ] at this;exact this
theorem a0s (its : List It) sp i u (a : i < its.length) : (its.flatMap bT ++ sp).set (i * 6 + 5) (iQ u) = (its.set i { its.getD i default with u := u }).flatMap bT ++ sp :=
  qp iW its i 5 _ _ sp a (by decide) (by simp [List.getD, a, bT])
theorem me (its : List It) sp i (a : i < its.length) : i * 6 + 6 ≤ (its.flatMap bT ++ sp).length := by
 rw [Qae, cQ iW]; omega
theorem tt {its : List It} {i} (h : i < its.length) : its ≠ [] := fun e => by rw [e] at h; simp at h
theorem rZ b its tl : sQ W0 386 [pQ b] (aZ b (its, tl) :: R) (iQ its.length) (aZ b (its, tl) :: R) := by
 refine wh fun a c => ?_;refine am func386 ntmps386 ?_;refine ae ?_;exact ⟨_, ⟨rfl, rfl⟩, rY rfl⟩
theorem yk b its tl (i k : Nat) (d : i < its.length) (hk : k < its.length) : sQ W0 507 [pQ b, iQ i, iQ k] (aZ b (its, tl) :: R) (.bool (decide (us its i < us its k))) (aZ b (its, tl) :: R) := by
 refine EA (tt d) fun g c e f h j => ?_;refine am func507 ntmps507 ?_;refine bc [b, g] 18 fun a => ?_;refine aj 0 5 a ?_;refine az 5 a (bI d) ?_;refine aj 6 1 a ?_;refine az 7 a (aF (cp (k := 1) rfl ((yj its e i 5 d (by decide)).trans rfl))) ?_;refine aj 8 5 a ?_;refine az 13 a (bI hk) ?_;refine aj 14 1 a ?_;refine az 15 a (aF (cp (k := 1) rfl ((yj its e k 5 hk (by decide)).trans rfl))) ?_;refine aj 16 2 a ?_;refine aK ?_;refine ae ?_;exact ⟨_, ⟨rfl, rfl⟩, tq rfl rfl f h j⟩
theorem yl b its tl (i k : Nat) (e : i < its.length) (hk : k < its.length) : sQ W0 510 [pQ b, iQ i, iQ k] (aZ b (its, tl) :: R) (.tuple #[]) (aZ b (swapL its i k, tl) :: R) := by
 refine EA (tt e) fun g c d j f h => ?_;refine am func510 ntmps510 ?_;refine bc [b] 28 fun a => ?_;refine aj 0 15 a ?_;refine az 15 a (bI hk) ?_;refine aj 17 5 a ?_;refine az 22 a (bI e) ?_;refine fP (is := [16, 23]) (by kernel_rfl) rfl ⟨?_, ?_, trivial⟩;refine dL (dP (dt (cJ (jX its d k hk) rfl))) ?_; clear a;rintro _ _ ⟨rfl, rfl⟩;refine ⟨aV, fun a => ?_⟩;refine bG 23 (dP (dt (cJ (jX its d i e) rfl))) fun a => ?_;refine az 24 a (bI e) ?_;refine cj 25 (iK (me its d i e) (n0 its d i (its.getD k default) e)) fun a => ?_;refine az 26 a (bI hk) ?_;refine cj 27 (iK (me (its.set i (its.getD k default)) d k (by grind)) (n0 (its.set i (its.getD k default)) d k (its.getD i default) (by grind))) fun a => ?_;refine aK ?_;refine bK (.inr rfl) .nil ?_;exact ⟨_, ⟨rfl, rfl⟩, tq rfl (by simp [swapL]) (by omega) f (by simpa [swapL, cQ iW] using h)⟩;skip;refine dL (dP (dt (cJ (jX its d i e) rfl))) ?_; clear a;rintro _ _ ⟨rfl, rfl⟩;refine ⟨aV, fun a => ?_⟩;refine bG 16 (dP (dt (cJ (jX its d k hk) rfl))) fun a => ?_;refine az 24 a (bI e) ?_;refine cj 25 (iK (me its d i e) (n0 its d i (its.getD k default) e)) fun a => ?_;refine az 26 a (bI hk) ?_;refine cj 27 (iK (me (its.set i (its.getD k default)) d k (by grind)) (n0 (its.set i (its.getD k default)) d k (its.getD i default) (by grind))) fun a => ?_;refine aK ?_;refine bK (.inr rfl) .nil ?_;exact ⟨_, ⟨rfl, rfl⟩, tq rfl (by simp [swapL]) (by omega) f (by simpa [swapL, cQ iW] using h)⟩
theorem AX b its x tl : sQ W0 508 [pQ b] (aZ b (its ++ [x], tl) :: R) (.iface 446 (.agg (bT x).toArray)) (aZ b (its, tl) :: R) := by
 refine EA (by simp) fun g c a i d j => ?_;have k : (its ++ [x]).length = its.length + 1 := by simp
 rw [k] at i ⊢;have l : (its ++ [x]).getD its.length default = x := by grind
 have e := jX (its ++ [x]) a its.length (by omega);rw [l] at e;have f : (its ++ [x]).flatMap bT ++ a = its.flatMap bT ++ (bT x ++ a) := by simp
 refine am func508 ntmps508 ?_;refine aa (jo rfl rfl (by rw [bS (by simp only [maxLen] at d; omega)]; omega : IntKind.wrap .i64 (((its.length + 1 : Nat) : Int) - 1) = ((its.length : Nat) : Int))) ?_;refine aa (bI (by omega)) ?_;refine aa (dt (cJ e rfl)) ?_;refine bi fun m => ?_;refine av aB ?_;refine aa (oM iD e9 rfl rfl rfl (by omega)) ?_;refine eU (lL sizeOf435 rfl rfl rfl (Qaa rfl) SetL.eq) ?_;rintro _ _ rfl;refine aP (aH (aQ (aY (ac rfl (ql lX e9 rfl rfl) ?_))));refine ac rfl (Hv vk (fun _ h => by cases h) rfl) ?_;refine ac rfl (bj rfl) (aP (aH (dv (bK (.inl rfl) (.cons (aN rfl) .nil) ?_))));rw [f];exact ⟨_, ⟨rfl, rfl⟩, tq (sp := bT x ++ a) rfl rfl (by omega) d (by rw [← f]; exact j)⟩
theorem a0t b its x tl (j : its.length < 1000) : sQ W0 509 [pQ b, .iface 446 (.agg (bT x).toArray)] (aZ b (its, tl) :: R) (.tuple #[]) (aZ b (its ++ [x], tl) :: R) := by
 refine wh fun a c => ?_;have e : its.flatMap bT ++ [bT x].flatten = (its ++ [x]).flatMap bT := by simp
 refine kS func509 ntmps509 rfl rfl ?_;refine bc [] 12 fun d => ?_;refine aj 0 4 d ?_;refine aj 5 1 d ?_;refine az 6 d (sK vk (fun _ h => by cases h) rfl) ?_;refine fP (is := [4, 7]) (by kernel_rfl) rfl ⟨?_, ?_, trivial⟩;refine dL (dP (aF (aJ rfl))) ?_; clear d;rintro _ _ ⟨rfl, rfl⟩;refine ⟨aV, fun d => ?_⟩;refine lN 7 (by kernel_rfl) rfl rfl (j0 iD e9 sy rfl (fR rfl rfl iG) rfl (by decide) (by decide) (by decide)) rfl ?_; clear d;rintro _ _ ⟨f, rfl, rfl⟩;refine ⟨aV, fun d => ?_⟩;refine bX 8 (eW (sz := 6) (by_ := 48) (info := Tryz.t446) iD (by kernel_rfl) rfl rfl rfl rfl (by decide) rfl rfl eK rfl rfl (by simp only [maxLen]; omega) (by omega)) ?_; clear d;rintro _ _ ⟨g, i, rfl, rfl⟩;refine ⟨aV, fun d => ?_⟩;refine aj 9 2 d ?_;refine cj 11 eg fun d => ?_;refine gC ?_;refine bK (.inr rfl) .nil ?_;rw [e];exact ⟨_, ⟨rfl, rfl⟩, rY (its := its ++ [x]) (by simp)⟩;skip;refine mD rfl rfl (j0 iD e9 sy rfl (fR rfl rfl iG) rfl (by decide) (by decide) (by decide)) rfl ?_; clear d;rintro _ _ ⟨f, rfl, rfl⟩;refine ⟨aV, fun d => ?_⟩;refine bG 4 (dP (aF (aJ rfl))) fun d => ?_;refine bX 8 (eW (sz := 6) (by_ := 48) (info := Tryz.t446) iD (by kernel_rfl) rfl rfl rfl rfl (by decide) rfl rfl eK rfl rfl (by simp only [maxLen]; omega) (by omega)) ?_; clear d;rintro _ _ ⟨g, i, rfl, rfl⟩;refine ⟨aV, fun d => ?_⟩;refine aj 9 2 d ?_;refine cj 11 eg fun d => ?_;refine aK ?_;refine bK (.inr rfl) .nil ?_;rw [e];exact ⟨_, ⟨rfl, rfl⟩, rY (its := its ++ [x]) (by simp)⟩
section
variable (w : World) (a : Addr)
theorem ym : (method (Tryz.prog.types.size + Made.depth) 447 (.pointer (some a)) "Len").run Tryz.prog w = .ok (386, .pointer (some a)) w := by kernel_rfl
theorem yn : (method (Tryz.prog.types.size + Made.depth) 447 (.pointer (some a)) "Less").run Tryz.prog w = .ok (507, .pointer (some a)) w := by kernel_rfl
theorem yo : (method (Tryz.prog.types.size + Made.depth) 447 (.pointer (some a)) "Swap").run Tryz.prog w = .ok (510, .pointer (some a)) w := by kernel_rfl
theorem a0u : (method (Tryz.prog.types.size + Made.depth) 447 (.pointer (some a)) "Push").run Tryz.prog w = .ok (509, .pointer (some a)) w := by kernel_rfl
theorem AY : (method (Tryz.prog.types.size + Made.depth) 447 (.pointer (some a)) "Pop").run Tryz.prog w = .ok (508, .pointer (some a)) w := by kernel_rfl
end
def nL (b : Nat) : Value := .iface 447 (.pointer (some ⟨b, 0, none⟩))
theorem E8 {j : Nat} (h : j < 1000) : IntKind.wrap .i64 (Int.tdiv (j - 1) 2) = ((j - 1) / 2 : Nat) := by
 grind [Int.tdiv_eq_ediv_of_nonneg, bS]
theorem xW {l a : List It} {i j n} (c : i < n) (d : j < n) (e : n ≤ l.length) (h : ∀ x, n ≤ x → l.getD x default = a.getD x default) : ∀ x, n ≤ x → (swapL l i j).getD x default = a.getD x default := fun x b => by
 rw [rS (by omega) (by omega), Qab (by omega), Qab (by omega)]; exact h x b
theorem vV W0 R b its tl j n (k : n ≤ its.length) (m : n < 1000) (g : j < n) (c : Up its j n) : sP W0 210 [nL b, iQ j] (aZ b (its, tl) :: R) (fun v B => v = .tuple #[] ∧ ∃ a, B = aZ b (a, tl) :: R ∧ a.Perm its ∧ Heap a n ∧ ∀ x, n ≤ x → a.getD x default = its.getD x default) := by
 refine am func210 ntmps210 ?_;refine d7 (fun X : List It × Nat => X.1.Perm its ∧ X.2 < n ∧ Up X.1 X.2 n ∧ ∀ x, n ≤ x → X.1.getD x default = its.getD x default) (fun X => [(0, nL b), (1, iQ X.2)]) (fun X => aZ b (X.1, tl) :: R) (fun X => X.2) (its, j) ?_ ?_;grind;intro ⟨l, j⟩ ⟨d, g, c, h⟩;have e := d.length_eq;simp only at g c h d e ⊢;refine aw ?_;refine aa gW ?_;refine aa (lZ rfl rfl (by decide) (E8 (by omega))) ?_;refine cv (fun f => ?_) fun f => ?_;refine bK (.inr rfl) .nil ?_;exact ⟨_, ⟨rfl, l, rfl, d, xT c (by omega), h⟩, IO⟩;refine ah (fT rfl ((fun w => yn w _)) Cz rfl (yk b l tl j ((j - 1) / 2) (by omega) (by omega))) ?_;refine aD rfl (fun i => ?_) fun i => ?_;refine au 5 ?_;refine bK (.inr rfl) .nil ?_;exact ⟨_, ⟨rfl, l, rfl, d, xT c (by omega), h⟩, IO⟩;replace i : us l j < us l ((j - 1) / 2) := by omega
 refine aw ?_;refine ah (fT rfl ((fun w => yo w _)) CB rfl (yl b l tl ((j - 1) / 2) j (by omega) (by omega))) ?_;exact bM (swapL l ((j - 1) / 2) j, (j - 1) / 2) (⟨(kF (by omega) (by omega)).trans d, by show (j - 1) / 2 < n; omega, E1 c (by omega) g (by omega) i, xW (by omega) g (by omega) h⟩)
theorem vW W0 R b its tl i0 n (G : n ≤ its.length) (H : n < 1000) (I : i0 ≤ n) (J : jF its i0 n) : sP W0 273 [nL b, iQ i0, iQ n] (aZ b (its, tl) :: R) (fun v B => ∃ l m, v = .bool m ∧ B = aZ b (l, tl) :: R ∧ Down its l i0 n m) := by
 refine am NO ntmps273 ?_;refine d7 (fun X : List It × Nat => X.1.Perm its ∧ i0 ≤ X.2 ∧ jF X.1 X.2 n ∧ (∀ x, n ≤ x → X.1.getD x default = its.getD x default) ∧ (X.2 = i0 → X.1 = its) ∧ (i0 < X.2 → us X.1 ((X.2 - 1) / 2) ≤ us X.1 X.2) ∧ X.2 ≤ n) (fun X => [(0, nL b), (1, iQ i0), (2, iQ n), (7, iQ X.2)]) (fun X => aZ b (X.1, tl) :: R) (fun X => n - X.2) (its, i0) ?_ ?_;grind;intro ⟨l, i⟩ ⟨k, g, s, t, u, y, z⟩;have o := k.length_eq;simp only at k g s t u y z o ⊢;refine aw ?_;refine aa uh ?_;refine aa (ee (2 * i + 1)) ?_;refine cv (fun p => ?_) fun p => ?_;refine ae ?_;refine ⟨_, ⟨l, decide (i0 < i), by simp [aO], rfl, xV k g s t u y ?_⟩, IO⟩
 first | (intro c d e f; exfalso; omega) | (intro c d e f; have := a c d e f; simp at h; omega)
 refine aD rfl (fun D => ?_) fun D => ?_;omega;refine au 8 ?_;refine dw (fun j : Nat => (j - 1) / 2 = i ∧ 0 < j ∧ j < n ∧ ∀ c, c < n → 0 < c → (c - 1) / 2 = i → us l j ≤ us l c) (fun j => [(0, nL b), (1, iQ i0), (2, iQ n), (7, iQ i), (9, iQ j)]) (fun j => aZ b (l, tl) :: R) ?_ ?_;refine au 3 ?_;refine aa (ee (2 * i + 2)) ?_;refine ci (fun q => ?_) fun q => ?_;refine ah (fT rfl ((fun w => yn w _)) Cz rfl (yk b l tl (2 * i + 2) (2 * i + 1) (by omega) (by omega))) ?_;refine ai (fun E => ?_) fun E => ?_;refine bY (2 * i + 2) ?_;refine ⟨by omega, by omega, by omega, fun c d e f => ?_⟩;have : c = 2 * i + 1 ∨ c = 2 * i + 2 := by omega
 rcases this with rfl | rfl <;> omega;refine bY (2 * i + 1) ?_;refine ⟨by omega, by omega, by omega, fun c d e f => ?_⟩;have : c = 2 * i + 1 ∨ c = 2 * i + 2 := by omega
 rcases this with rfl | rfl <;> omega;refine bY (2 * i + 1) ?_;refine ⟨by omega, by omega, by omega, fun c d e f => ?_⟩;have : c = 2 * i + 1 ∨ c = 2 * i + 2 := by omega
 rcases this with rfl | rfl <;> omega;intro j ⟨F, A, r, a⟩;refine aw ?_;refine ah (fT rfl ((fun w => yn w _)) Cz rfl (yk b l tl j i (by omega) (by omega))) ?_;refine aD rfl (fun h => ?_) fun h => ?_;refine au 15 ?_;refine ae ?_;refine ⟨_, ⟨l, decide (i0 < i), by simp [aO], rfl, xV k g s t u y ?_⟩, IO⟩
 first | (intro c d e f; exfalso; omega) | (intro c d e f; have := a c d e f; simp at h; omega)
 replace h : us l j < us l i := by simpa using h
 refine aw ?_;refine ah (fT rfl ((fun w => yo w _)) CB rfl (yl b l tl i j (by omega) (by omega))) ?_;refine bM (swapL l i j, j) ?_ (hμ := ?_);have C := E0 s (by omega) r F A h a;exact ⟨(kF (by omega) (by omega)).trans k, by show i0 ≤ j; omega, C.1, xW (by omega) r (by omega) t, by show j = i0 → _; omega, fun _ => C.2, by show j ≤ n; omega⟩;show n - j < n - i; omega
theorem EC b its tl i (e : its.length < 1000) (g : i < its.length) (f : jF its i its.length) : sP W0 385 [nL b, iQ i] (aZ b (its, tl) :: R) (fun v B => v = .tuple #[] ∧ ∃ a, B = aZ b (a, tl) :: R ∧ a.Perm its ∧ Heap a its.length) := by
 refine am func385 ntmps385 ?_;refine ah (fT rfl ((fun w => ym w _)) tT rfl (rZ b its tl)) ?_;refine aG rfl (ao zu (vW W0 _ b its tl i its.length (Qao _) e (by omega) f)) ?_;rintro _ _ ⟨l, m, rfl, rfl, d⟩;refine aw ?_;refine ai (fun h => ?_) fun h => ?_;have j : m = false := by grind
 obtain ⟨rfl, c⟩ := d.no j;refine aG rfl (ao Cs (vV W0 _ b l tl i l.length (Qao _) e g (An f c))) ?_;rintro _ _ ⟨rfl, k, rfl, n, o, _⟩;refine aw ?_;refine bK (.inr rfl) .nil ?_;exact ⟨_, ⟨rfl, k, rfl, n, o⟩, IO⟩;refine bK (.inr rfl) .nil ?_;exact ⟨_, ⟨rfl, l, rfl, d.perm, d.yes (by grind)⟩, IO⟩
theorem E9 {its x} (h : Heap its its.length) : Up (its ++ [x]) its.length (its.length + 1) := by
 have e : ∀ c, c < its.length → us (its ++ [x]) c = us its c := fun c a => by
  unfold us; simp only [Qau]; rw [QaB a]
 intro c a b;refine ⟨fun d => ?_, fun d f => by omega⟩;rw [e c (by omega), e _ (by omega)]; exact h c (by omega) b
theorem heapPush_spec b its x tl (h : its.length < 900) (e : Heap its its.length) : sP W0 149 [nL b, .iface 446 (.agg (bT x).toArray)] (aZ b (its, tl) :: R) (fun v B => v = .tuple #[] ∧ ∃ a, B = aZ b (a, tl) :: R ∧ a.Perm (its ++ [x]) ∧ Heap a a.length) := by
 have f : (its ++ [x]).length = its.length + 1 := by simp
 refine am func149 ntmps149 ?_;refine ah (fT rfl ((fun w => a0u w _)) call509 rfl (a0t b its x tl (by omega))) ?_;refine ah (fT rfl ((fun w => ym w _)) tT rfl (rZ b (its ++ [x]) tl)) ?_;refine aa (o8 its.length) ?_;refine aG rfl (ao Cs (vV W0 _ b (its ++ [x]) tl its.length (its.length + 1) (by omega) (by omega) (by omega) (E9 e))) ?_;rintro _ _ ⟨rfl, g, rfl, d, c, _⟩;refine aw ?_;refine bK (.inr rfl) .nil ?_;exact ⟨_, ⟨rfl, g, rfl, d, by rw [d.length_eq, f]; exact c⟩, IO⟩
theorem xZ {l : List It} {n} (h : l.length = n + 1) : ∃ b x, l = b ++ [x] ∧ b.length = n ∧ x = l.getD n default := by
 have a : l ≠ [] := fun e => by rw [e] at h; simp at h
 refine ⟨l.dropLast, l.getLast a, (List.dropLast_concat_getLast a).symm, by simp [h], ?_⟩;rw [List.getLast_eq_getElem];simp [List.getD, h]
theorem y3 {l x n} (h : Heap (l ++ [x]) n) (a : n ≤ l.length) : Heap l n :=
  E2 (fun i b => by simp only [Qau]; rw [QaB (by omega)]) h
theorem heapPop_spec b its tl (F : its.length < 900) (i : its ≠ []) (p : Heap its its.length) : sP W0 196 [nL b] (aZ b (its, tl) :: R) (fun v B => ∃ x a, v = .iface 446 (.agg (bT x).toArray) ∧ B = aZ b (a, tl) :: R ∧ (a ++ [x]).Perm its ∧ Heap a a.length ∧ ∀ y ∈ its, x.u ≤ y.u) := by
 obtain ⟨n, G⟩ : ∃ n, its.length = n + 1 := ⟨its.length - 1, by have := Qcy.2 i; omega⟩
 have q : jF (swapL its 0 n) 0 n := fun c j i => ⟨fun r s => by
  rw [kW (by omega) (by omega), kW (by omega) (by omega), Qab s, Qab r, Qab (by omega), Qab (by omega)]
  exact p c (by omega) i, fun _ h => by omega⟩
 have t := xR its 0 n;refine am func196 ntmps196 ?_;refine ah (fT rfl ((fun w => ym w _)) tT rfl (rZ b its tl)) ?_;refine aa (o8 n) ?_;refine ah (fT rfl ((fun w => yo w _)) CB rfl (yl b its tl 0 n (by omega) (by omega))) ?_;refine aG rfl (ao zu (vW W0 _ b (swapL its 0 n) tl 0 n (by omega) (by omega) (by omega) q)) ?_;rintro _ _ ⟨l, m, rfl, rfl, d⟩;have z := d.perm.length_eq;obtain ⟨g, x, rfl, k, A⟩ := xZ (l := l) (n := n) (by omega);have o : x = its.getD 0 default := by
  rw [A, d.tail n (Qao _), rS (by omega) (by omega)]; split
  rename_i e; subst e; rfl
  rw [Qad rfl]
 have C : (g ++ [x]).Perm its := d.perm.trans (kF (by omega) (by omega));have D : Heap (g ++ [x]) n := by
  cases m with
  | true => exact d.yes rfl
  | false =>
   obtain ⟨e, f⟩ := d.no rfl;rw [e]; exact xS q f (fun h => absurd h (by omega))
 refine aw ?_;refine ah (fT rfl ((fun w => AY w _)) GD rfl (AX b g x tl)) ?_;refine ae ?_;refine ⟨_, ⟨x, g, rfl, rfl, C, by rw [k]; exact y3 D (by omega), fun y E => ?_⟩, IO⟩;obtain ⟨c, j, rfl⟩ := Qbb.1 E;have := heap_min p c j;rw [us_eq j] at this;rw [o]; exact this
theorem heapRemove_spec b a tl (i : Nat) (M : a.length < 900) (N : i < a.length) (u : Heap a a.length) : sP W0 272 [nL b, iQ i] (aZ b (a, tl) :: R) (fun v B => ∃ e, v = .iface 446 (.agg (bT (a.getD i default)).toArray) ∧ B = aZ b (e, tl) :: R ∧ (e ++ [a.getD i default]).Perm a ∧ Heap e e.length) := by
 obtain ⟨n, O⟩ : ∃ n, a.length = n + 1 := ⟨a.length - 1, by omega⟩
 have E : i ≠ n → jF (swapL a i n) i n := fun g c P F => ⟨fun y z => by
  rw [kW (by omega) (by omega), kW (by omega) (by omega), Qab z, Qab y, Qab (by omega), Qab (by omega)];exact u c (by omega) F, fun y z => by
  rw [kW (by omega) (by omega), kW (by omega) (by omega), Qab (by omega), Qab (by omega), Qab (by omega), Qab (by omega)];have H := u c (by omega) F;have Q := u i (by omega) z
  rw [y] at H; omega⟩
 have I := xR a i n;have q : ∀ l : List It, l.Perm a → Heap l n → l.getD n default = a.getD i default → ∃ d, l = d ++ [a.getD i default] ∧ d.length = n ∧ Heap d d.length := fun l f o G => by
  have := f.length_eq;obtain ⟨d, x, rfl, k, s⟩ := xZ (l := l) (n := n) (by omega);rw [G] at s; subst s;exact ⟨d, rfl, k, by rw [k]; exact y3 o (by omega)⟩
 have p : i ≠ n → (swapL a i n).getD n default = a.getD i default := fun h => by
  rw [rS (by omega) (by omega), Qab (by omega), Qad rfl]
 refine am func272 ntmps272 ?_;refine ah (fT rfl ((fun w => ym w _)) tT rfl (rZ b a tl)) ?_;refine aa (o8 n) ?_;refine ai (fun J => ?_) fun J => ?_;have g : i ≠ n := by omega
 refine ah (fT rfl ((fun w => yo w _)) CB rfl (yl b a tl i n (by omega) (by omega))) ?_;refine aG rfl (ao zu (vW W0 _ b (swapL a i n) tl i n (by omega) (by omega) (by omega) (E g))) ?_;rintro _ _ ⟨l, m, rfl, rfl, r⟩;have K := r.perm.length_eq;refine aw ?_;refine ai (fun A => ?_) fun A => ?_;have C : m = false := by simpa using A
 obtain ⟨rfl, t⟩ := r.no C;refine aG rfl (ao Cs (vV W0 _ b (swapL a i n) tl i n (by omega) (by omega) (by omega) (An (E g) t))) ?_;rintro _ _ ⟨rfl, l, rfl, f, o, L⟩;obtain ⟨d, rfl, k, o⟩ := q l (f.trans (kF (by omega) (by omega))) o ((L n (Qao _)).trans (p g));replace f := f.trans (kF (by omega) (by omega));generalize a.getD i default = x at f ⊢;refine aw ?_;refine ah (fT rfl ((fun w => AY w _)) GD rfl (AX b d x tl)) ?_;refine ae ?_;exact ⟨_, ⟨d, rfl, rfl, by first | exact f | exact QaO _, o⟩, IO⟩;have C : m = true := by simpa using A
 obtain ⟨d, rfl, k, o⟩ := q l (r.perm.trans (kF (by omega) (by omega))) (r.yes C) ((r.tail n (Qao _)).trans (p g));have f := r.perm.trans (kF (l := a) (i := i) (j := n) (by omega) (by omega));generalize a.getD i default = x at f ⊢;refine ah (fT rfl ((fun w => AY w _)) GD rfl (AX b d x tl)) ?_;refine ae ?_;exact ⟨_, ⟨d, rfl, rfl, by first | exact f | exact QaO _, o⟩, IO⟩;obtain rfl : n = i := by omega
 obtain ⟨d, D, k, o⟩ := q a (QaO _) (E3 u (by omega)) rfl;have f : (d ++ [a.getD n default]).Perm a := by rw [← D]
 generalize G : a.getD n default = x at D f ⊢;rw [D];refine ah (fT rfl ((fun w => AY w _)) GD rfl (AX b d x tl)) ?_;refine ae ?_;exact ⟨_, ⟨d, rfl, rfl, by first | exact f | exact QaO _, o⟩, IO⟩
@[reducible] def iz (k : Int × Int) : List Value := [.int .i64 k.1, .int .i64 k.2]
@[reducible] def pi (e : Int × Int × Int) : List Value := [.int .i64 e.1, .int .i64 e.2.1, .int .i64 e.2.2]
theorem a0v x bk k : sQ W0 373 [.agg (bT x).toArray, pQ bk] (pt bk (ag (iz k) 380) :: R) (.bool (decide (x.key = k))) (pt bk (ag (iz k) 380) :: R) := by
 refine am func373 ntmps373 ?_;refine bA fun a => ?_;refine ac rfl (dt (cJ (vs := [iQ x.kr, iQ x.kp]) rfl rfl)) ?_;refine ac rfl (dt (cJ (vs := [iQ k.1, iQ k.2]) rfl rfl)) ?_;refine aa (vx Tryz.eqGuardType380 rfl rfl (u7 Ch Tryz.stoodInHeld380 (lJ rfl db rfl rfl (lI jL) (lJ rfl db rfl rfl (lI jL) u6)))) ?_;refine ae ?_;refine aI ?_;simp [aO, It.key, Prod.ext_iff]; rw [Qag]; simp
def K0 (its : List It) (k : Int × Int) (r : Int) : Prop := (r = -1 ∧ ∀ x ∈ its, x.key ≠ k) ∨ ∃ i : Nat, r = (i : Int) ∧ i < its.length ∧ (its.getD i default).key = k
theorem a0w {its : List It} {k} (h : ∀ i, i < its.length → (its.getD i default).key ≠ k) : ∀ x ∈ its, x.key ≠ k := fun x b => by
 obtain ⟨c, a, rfl⟩ := Qbb.1 b;have := h c a;simpa [List.getD, a] using this
theorem a0x its a c bk k (u : its.length < 1000) : sP W0 372 [.slice a its.length c, .func (.func 373) #[] #[pQ bk]] (osl 446 6 (.slice a its.length c) (its.flatMap bT) :: pt bk (ag (iz k) 380) :: R) (fun v B => ∃ r, v = iQ r ∧ B = osl 446 6 (.slice a its.length c) (its.flatMap bT) :: pt bk (ag (iz k) 380) :: R ∧ K0 its k r) := by
 refine xq (fun b d => ?_) fun g n q l b d m o p => ?_;have s : its.length = 0 := by grind
 obtain rfl : its = [] := QaE s;cases b;refine am GE ntmps372 ?_;refine d7 (fun X : Nat => True) (fun X => [(7, iQ 0), (8, iQ X)]) (fun X => pt bk (ag (iz k) 380) :: R) (fun X => X) 0 ?_ ?_;trivial;intro j t;refine aw ?_;refine aD rfl (fun e => ?_) fun e => ?_;omega;refine aw ?_;refine ae ?_;exact ⟨_, ⟨-1, rfl, rfl, .inl ⟨rfl, by simp⟩⟩, fQ⟩;cases b;refine am GE ntmps372 ?_;refine d7 (fun X : Nat => X ≤ its.length ∧ ∀ i, i < X → (its.getD i default).key ≠ k) (fun X => [(0, .slice (some ⟨g, 0, none⟩) its.length c), (1, .func (.func 373) #[] #[pQ bk]), (7, iQ (its.length : Nat)), (8, iQ X)]) (fun X => pt g (ag (its.flatMap bT ++ l) 446) :: pt bk (ag (iz k) 380) :: R) (fun X => its.length - X) 0 ?_ ?_;grind;intro j ⟨t, f⟩;refine aw ?_;refine ai (fun e => ?_) fun e => ?_;refine aa (bI (by omega)) ?_;refine aa (dt (cJ (jX its l j (by omega)) rfl)) ?_;refine ah (uf rfl call373 rfl (a0v (its.getD j default) bk k)) ?_;refine aD rfl (fun h => ?_) fun h => ?_;replace h : (its.getD j default).key = k := by omega
 refine aw ?_;refine ae ?_;exact ⟨_, ⟨_, rfl, rfl, .inr ⟨j, rfl, by omega, h⟩⟩, fC d m o p⟩;refine aw ?_;refine aa co ?_;refine bM (j + 1) ?_;grind;refine ae ?_;exact ⟨_, ⟨-1, rfl, rfl, .inl ⟨rfl, a0w fun i w => f i (by omega)⟩⟩, fC d m o p⟩
theorem wi b its rm nw : sQ W0 333 [pQ b] (aZ b (its, [rm, nw, .bool true]) :: R) (.bool false) (aZ b (its, [rm, nw, .bool true]) :: R) := by
 refine wh fun a c => ?_;refine am func333 ntmps333 ?_;refine dj rfl rfl rfl (fun d => ?_) fun d => ?_;cases d;refine aw ?_;refine ae ?_;exact ⟨_, ⟨by simp [aO], rfl⟩, rY rfl⟩
theorem K9 b v0 rm (now : Nat) (a : now < 1000000) : sQ W0 384 [pQ b] (pt b (ag [v0, rm, iQ now, .bool true] 439) :: R) (iQ (now + 1 : Nat)) (pt b (ag [v0, rm, iQ (now + 1 : Nat), .bool true] 439) :: R) := by
 refine am func384 ntmps384 ?_;refine aa (ee (now + 1)) ?_;refine av eg ?_;exact ae ap
theorem Ka b its rm (now : Nat) (d : now < 1000000) : sQ W0 384 [pQ b] (aZ b (its, [rm, iQ now, .bool true]) :: R) (iQ (now + 1 : Nat)) (aZ b (its, [rm, iQ (now + 1 : Nat), .bool true]) :: R) := by
 refine wh fun a c => iH (K9 b _ rm now d) ?_;rintro _ _ ⟨rfl, rfl⟩;exact ⟨_, ⟨rfl, rfl⟩, rY rfl⟩
theorem AZ b its tl k (d : its.length < 1000) : sP W0 334 [pQ b, .agg (iz k).toArray] (aZ b (its, tl) :: R) (fun v B => ∃ r, v = iQ r ∧ B = aZ b (its, tl) :: R ∧ K0 its k r) := by
 refine wh fun a c => ?_;refine am func334 ntmps334 ?_;refine bA fun e => ?_;refine aG rfl (cA call372 (a0x its a c e k d)) ?_;rintro _ _ ⟨r, rfl, rfl, f⟩;refine aw ?_;refine ae ?_;exact ⟨_, ⟨r, rfl, rfl, f⟩, rY rfl⟩
theorem a0y (a : Nat) (h : a ≤ 4) : sP W0 263 [iQ a] R (fun v B => ∃ b, v = .tuple #[pQ b, iQ 0] ∧ B = aZ b ([], [iQ a, iQ 0, .bool true]) :: R) := by
 refine am func263 ntmps263 ?_;refine dj rfl rfl rfl (fun c => ?_) fun c => ?_;omega;refine aw ?_;refine aD rfl (fun d => ?_) fun d => ?_;omega;refine aw ?_;refine bA fun e => ?_;refine aA ?_;exact ⟨_, ⟨e, rfl, rfl⟩, (Ent.cons (fQ (B := R))).trans (g5 (R := R) (C := [_, _]) ⟨none, 0, rfl⟩)⟩
abbrev wj (pv bt bs : Nat) : Obj := ag [.pointer (some ⟨pv, 0, none⟩), .pointer (some ⟨bt, 0, none⟩), .pointer (some ⟨bs, 0, none⟩)] 325
theorem a0z : sP W0 264 [] R (fun v B => ∃ b, v = pQ b ∧ B = pt b (ag [ek, .bool true] 442) :: R) := by
 refine am func264 ntmps264 ?_;refine bA fun a => ?_;refine ae ?_;exact ⟨_, ⟨_, rfl, rfl⟩, ent_refl⟩
theorem a0A (pv ps pm d a : Nat) (i : a ≤ 4) : sP W0 178 [pQ pv, iQ a] (pt pv (cB ps pm d) :: R) (fun v B => ∃ c e f, v = .tuple #[pQ c, iQ 0] ∧ B = pt c (wj pv e f) :: aZ e ([], [iQ a, iQ 0, .bool true]) :: pt f (ag [ek, .bool true] 442) :: pt pv (cB ps pm d) :: R) := by
 refine am func178 ntmps178 ?_;refine ah (ao tU (rK pv ps pm d)) ?_;refine ai (fun g => ?_) fun g => ?_;exact absurd g (by simp);refine aG rfl (aC call263 (a0y a i)) ?_;rintro _ j ⟨e, rfl, b⟩;subst b;refine aw ?_;refine ai (fun h => ?_) fun h => ?_;exact absurd rfl h;refine aG rfl (aC call264 (a0z)) ?_;rintro _ j ⟨f, rfl, b⟩;subst b;refine aw ?_;refine bA fun c => ?_;refine aA ?_;exact ⟨_, ⟨c, e, f, rfl, rfl⟩, IO⟩
abbrev pV (b : Nat) : Value := .pointer (some ⟨b, 0, none⟩)
structure Bd where
  r : Nat
  c : Nat
  m : Nat
  v : Nat
  t : Nat
@[reducible] def uL (x : Bd) (qs : List Nat) : List Value := [pV x.r, pV x.c, pV x.m] ++ (qs.map pV ++ List.replicate (3 - qs.length) (.pointer none)) ++ [pV x.v, pV x.t, .bool false, .int .u32 0, .int .u32 0, .int .u32 0, .int .u32 0]
theorem a0B {x q} : ∀ {qs : List Nat}, qs.length < 3 → (uL x qs).set (3 + qs.length * 1) (pV q) = uL x (qs ++ [q])
 | [], _ => rfl
 | [a], _ => rfl
 | [a, b], _ => rfl
theorem a9D {x qs} (h : qs.length ≤ 3) : (uL x qs).length = 13 := by
 simp [uL]; omega
abbrev tu (x : Bd) (i bt bs pv : Nat) (T : List HP) : List HP := pt x.r (dR (List.replicate 16 0) 0) :: pt x.c (JY i) :: pt x.m (wj pv bt bs) :: aZ bt ([], [.int .i64 ((4 : Nat) : Int), .int .i64 0, .bool true]) :: pt bs (ag [ek, .bool true] 442) :: pt x.v tf :: pt x.t tj :: T
theorem a0C {l x R} : Ent (x :: kH 6 (cu l) :: R) (kH 6 (cu (l ++ [x])) :: R) :=
  (Ent.cons (qg (A := l) (R := R))).trans ((Ent.ofPerm (by
    show (x :: (l ++ R)).Perm ((l ++ [x]) ++ R);rw [QaI]
    exact (List.perm_middle).symm)).trans qi)
@[reducible] def B4 (x : Bd) (q0 q1 q2 : Nat) : List Value := [pV x.r, pV x.c, pV x.m, pV q0, pV q1, pV q2, pV x.v, pV x.t, .bool false, .int .u32 0, .int .u32 0, .int .u32 0, .int .u32 0]
theorem ED (i pv ps pm d : Nat) (y : i < 4) : sP W0 91 [iQ i, pV pv] (pt pv (cB ps pm d) :: R) (fun v B => ∃ x r s h j k, v = .tuple #[.agg (B4 x h j k).toArray, iQ 0] ∧ B = tu x i r s pv (kH 6 (cu [pt h (qO true dJ), pt j (qO true dJ), pt k (qO true dJ)]) :: pt pv (cB ps pm d) :: R)) := by
 refine am func91 ntmps91 ?_;refine bi fun u => ?_;refine aG rfl (aC call177 (a0k i y)) ?_;rintro _ t ⟨l, rfl, e⟩;obtain rfl := e.symm;refine au 14 ?_;refine jR ?_;refine aG rfl (ao call178 (a0A pv ps pm d 4 (by decide))) ?_;rintro _ t ⟨m, r, s, rfl, e⟩;obtain rfl := e.symm;refine au 14 ?_;refine jR ?_;refine aG rfl (aC call179 (a0h)) ?_;rintro _ t ⟨n, rfl, e⟩;obtain rfl := e.symm;refine aw ?_;refine aG rfl (aC call180 (a0l)) ?_;rintro _ t ⟨o, rfl, e⟩;obtain rfl := e.symm;refine aG rfl (aC call181 (a0m)) ?_;rintro _ t ⟨p, rfl, e⟩;obtain rfl := e.symm;refine aw ?_;refine bi fun w => ?_;refine av aB ?_;refine gU (fun f : List Nat => f.length ≤ 3) (fun f => [(4, pV u), (9, pV w), (35, iQ f.length)]) (fun f => pt w (ag (uL ⟨n, l, m, o, p⟩ f) 142) :: kH 6 (cu (f.map fun q => pt q (qO true dJ))) :: pt u (ag [.pointer none, .pointer none, .pointer none, .pointer none, .pointer none, .pointer none, .pointer none, .pointer none, .bool false, .int .u32 0, .int .u32 0, .int .u32 0, .int .u32 0] 142) :: tu ⟨n, l, m, o, p⟩ i r s pv (pt pv (cB ps pm d) :: R)) (fun f => 3 - f.length) [] ?_ ?_ ?_ ?_;grind
 · repeat (first | exact bC | refine bq rfl ?_)
 refine Ent.trans (B := pt w (ag (uL ⟨n, l, m, o, p⟩ []) 142) :: pt u (ag [.pointer none, .pointer none, .pointer none, .pointer none, .pointer none, .pointer none, .pointer none, .pointer none, .bool false, .int .u32 0, .int .u32 0, .int .u32 0, .int .u32 0] 142) :: tu ⟨n, l, m, o, p⟩ i r s pv (pt pv (cB ps pm d) :: R)) ?_ ?_;rw [show uL ⟨n, l, m, o, p⟩ [] = [pV n, pV l, pV m, .pointer none, .pointer none, .pointer none, pV o, pV p, .bool false, .int .u32 0, .int .u32 0, .int .u32 0, .int .u32 0] from rfl];exact IO;exact Ent.cons (qi (A := []));intro f C;refine aw ?_;refine aD rfl (fun z => ?_) fun z => ?_;refine au 10 ?_;have g : f.length < 3 := by omega
 refine aw ?_;refine aG rfl (aC call182 (Z6)) ?_;rintro _ t ⟨q, rfl, e⟩;obtain rfl := e.symm;refine ac rfl (cD rfl a7z rfl sizeOf138 rfl (by first | exact Qac _ | rfl)) ?_;refine ac rfl (eL g) ?_;refine eU (lL sizeOf137 rfl rfl rfl (by grind) (a0B g)) ?_;rintro _ _ rfl;refine aP (oL (aH (aY ?_)));refine ac rfl (cY rfl rfl (by first | exact bS (by omega) | rfl)) ?_;refine ac rfl (aM rfl) (aP (aH ?_));refine xa (f ++ [q]) ?_ ?_ ?_ ?_;grind;grind
 · rw [show ((f ++ [q]).length : Int) = ((f.length : Nat) : Int) + 1 by simp]
   repeat (first | exact bC | refine bq rfl ?_)
 grind [QaG, Ent.cons, a0C];refine au 6 ?_;have g : f.length = 3 := by omega
 obtain ⟨h, j, k, rfl⟩ : ∃ h j k, f = [h, j, k] := by
  match f, g with
  | [a, b, c], _ => exact ⟨a, b, c, rfl⟩
 refine aY (ac rfl (ql N3 zg rfl rfl) ?_);refine eU (fM zg rfl rfl rfl rfl rfl) ?_;rintro _ _ rfl;refine ac rfl (bj rfl) (aP (aH (dv (aS (.cons (aX N3 zg rfl rfl) (.cons (aN rfl) .nil)) ?_))));refine ⟨_, ⟨⟨n, l, m, o, p⟩, r, s, h, j, k, rfl, rfl⟩, ?_⟩;rw [show [h, j, k].map (fun q => pt q (qO true dJ)) = [pt h (qO true dJ), pt j (qO true dJ), pt k (qO true dJ)] from rfl];exact IO
def mf (r : Int × Int) (i : Int) : Int := if i = r.1 then 3 else if i = r.2 then 1 else 0
theorem a0D r i : sQ W0 175 [.agg (iL r).toArray, iQ i] R (iQ (mf r i)) R := by
 refine am func175 ntmps175 ?_;refine bA fun c => ?_;refine ai (fun a => ?_) fun a => ?_;refine ae ?_;rw [mf, Qad (by omega)];exact ap;refine ai (fun b => ?_) fun b => ?_;refine ae ?_;rw [mf, Qab (by omega), Qad (by omega)];exact ap;refine ae ?_;rw [mf, Qab (by omega), Qab (by omega)];exact ap
def nf (c : Cfg) (k : Nat) : Int × Int := c.nl.getD k (0, 0)
def fH (c : Cfg) (i : Int) : Nat → List Pl → List Pl
 | 0, pg => pg
 | k + 1, pg => if mf (nf c k) i = 0 then fH c i k pg else eA (fH c i k pg) ((8 + k : Nat) : Int) (md c k, mf (nf c k) i)
theorem yp {c i pg} (h : Pgs pg) : ∀ k, Pgs (fH c i k pg)
 | 0 => h
 | k + 1 => by
  rw [fH]; split;exact yp h k;exact vN (yp h k)
theorem a0E c (h : CfK W0 c) i pm pg (m : Pgs pg) (r : c.nl.length ≤ 4) : sQ W0 89 [.agg (dI c).toArray, iQ i, pV pm] (pt pm (bN pg) :: R) (.tuple #[]) (pt pm (bN (fH c i c.nl.length pg)) :: R) := by
 refine am func89 ntmps89 ?_;refine bA fun b => ?_;refine gU (fun k : Nat => k ≤ c.nl.length) (fun k => [(1, iQ i), (2, pV pm), (3, pV b), (10, .slice c.na c.nl.length c.nc), (11, iQ (c.nl.length : Nat)), (12, iQ k)]) (fun k => pt b (ia c) :: pt pm (bN (fH c i k pg)) :: R) (fun k => c.nl.length - k) 0 ?_ ?_ ?_ ?_;omega
 · repeat (first | exact bC | refine bq rfl ?_)
 rw [show fH c i 0 pg = pg from rfl];exact IO;intro k s;refine aw ?_;refine aD rfl (fun p => ?_) fun p => ?_;refine au 2 ?_;refine dw (fun _ : Unit => k < c.nl.length) (fun _ => [(1, iQ i), (2, pV pm), (3, pV b), (10, .slice c.na c.nl.length c.nc), (11, iQ (c.nl.length : Nat)), (12, iQ k)]) (fun _ => pt b (ia c) :: pt pm (bN (fH c i (k + 1) pg)) :: R) ?_ ?_;refine au 2 ?_;have a : k < c.nl.length := by omega
 obtain ⟨g, o, d, j⟩ := (h.ok.n []).at_ a;obtain ⟨x, q⟩ : ∃ x, c.nl[k] = x := ⟨_, rfl⟩
 rw [q] at j;have l : nf c k = x := by grind [nf]
 have e := yp (c := c) (i := i) m k;refine aw ?_;refine aa (eR zn zh rfl d rfl rfl a (by first | exact Qac _ | rfl)) ?_;refine aa (dt j.weak) ?_;refine bi fun t => ?_;refine av aB ?_;refine ah (aC call175 (a0D x i)) ?_;refine ai (fun f => ?_) fun f => ?_;refine aa (ee (8 + k)) ?_;refine ah (aC call176 (ZY c h k)) ?_;refine ah (ao NS (Dt pm (fH c i k pg) e (8 + k : Nat) (md c k, mf x i))) ?_;refine bY () ?_ (he := ?_);exact a;rw [fH, l, Qab (by simpa using f)];exact IO;refine bY () ?_ (he := ?_);exact a;rw [fH, l, Qad (by simpa using f)];exact IO;intro _ a;refine aw ?_;refine aa co ?_;exact bM (k + 1) (by omega);refine aw ?_;refine bK (.inr rfl) .nil ?_;obtain rfl : k = c.nl.length := by omega
 exact ap
theorem a0F {ws n} (h : n ≤ 8) : bz (bz ws 8) n = bz ws n := by
 grind [bz]
abbrev jI : List Pl := List.replicate 12 (0, 0)
theorem yq : Pgs jI := ⟨rfl, fun n a h => absurd (by
  have : n = 0 ∨ n = 1 ∨ n = 2 ∨ n = 3 ∨ n = 4 ∨ n = 5 ∨ n = 6 ∨ n = 7 ∨ n = 8 ∨ n = 9 ∨ n = 10 ∨ n = 11 := by omega
  rcases this with rfl | rfl | rfl | rfl | rfl | rfl | rfl | rfl | rfl | rfl | rfl | rfl <;> rfl) h⟩
theorem EE : qI jI 0 8 := fun i _ a => by
 have : i = 0 ∨ i = 1 ∨ i = 2 ∨ i = 3 ∨ i = 4 ∨ i = 5 ∨ i = 6 ∨ i = 7 := by omega
 rcases this with rfl | rfl | rfl | rfl | rfl | rfl | rfl | rfl <;> decide
@[reducible] def B5 (x : Bd) (q0 q1 q2 : Nat) (c : Cfg) (i : Nat) (wv : Value) (pb pv bx tr : Nat) : List Value :=
  [pV x.r, pV x.c, pV x.m, pV q0, pV q1, pV q2, pV x.v, pV x.t, .bool false, .int .u32 0, .int .u32 0, .int .u32 0, .int .u32 0] ++ dI c ++ [.int .i64 i, wv, pV pb, pV pv, pV bx, pV tr, .int .i64 0]
theorem a0G {S N e o0 o1 o2 o3 o4 o5 o6 o7 x} {a b d i pb pv f g : Nat} {c wv} (h : wv.oneCell' = true) (j : ev e o0 = some (.agg (B4 x a b d).toArray)) (k : ev e o1 = some (.agg (dI c).toArray)) (l : ev e o2 = some (iQ i)) (n : ev e o3 = some wv) (o : ev e o4 = some (pV pb)) (p : ev e o5 = some (pV pv)) (q : ev e o6 = some (pV f)) (s : ev e o7 = some (pV g)) :
    bR Tryz.prog S N e (.build 144 #[(0, o0), (1, o1), (2, o2), (3, o3), (4, o4), (5, o5), (6, o6), (7, o7)]) (.agg (B5 x a b d c i wv pb pv f g).toArray) :=
  fB (l' := B5 x a b d c i wv pb pv f g) a7A zeroValue144 (aL zg (aL vg (aL aR (aL Cd (aL Nj (aL C8 (aL Nb (aL Na (aL aR fA)))))))))
    (kj (l' := [pV x.r, pV x.c, pV x.m, pV a, pV b, pV d, pV x.v, pV x.t, .bool false, .int .u32 0, .int .u32 0, .int .u32 0, .int .u32 0, iQ 0, .slice none 0 0, .slice none 0 0, .slice none 0 0, .slice none 0 0, .slice none 0 0, iQ 0, iQ 0, iQ 0, .slice none 0 0, .pointer none, .pointer none, .pointer none, .pointer none, iQ 0]) rfl zg j rfl (Qaa rfl) rfl
    (kj (l' := [pV x.r, pV x.c, pV x.m, pV a, pV b, pV d, pV x.v, pV x.t, .bool false, .int .u32 0, .int .u32 0, .int .u32 0, .int .u32 0, iQ c.cats, .slice c.ga c.gl.length c.gc, .slice c.ra c.rl.length c.rc, .slice c.pa c.pl.length c.pc, .slice c.na c.nl.length c.nc, .slice c.sa c.sl.length c.sc, iQ c.gate, iQ c.quota, iQ 0, .slice none 0 0, .pointer none, .pointer none, .pointer none, .pointer none, iQ 0]) rfl vg k rfl (Qaa rfl) rfl
    (bW (l' := [pV x.r, pV x.c, pV x.m, pV a, pV b, pV d, pV x.v, pV x.t, .bool false, .int .u32 0, .int .u32 0, .int .u32 0, .int .u32 0, iQ c.cats, .slice c.ga c.gl.length c.gc, .slice c.ra c.rl.length c.rc, .slice c.pa c.pl.length c.pc, .slice c.na c.nl.length c.nc, .slice c.sa c.sl.length c.sc, iQ c.gate, iQ c.quota, iQ i, .slice none 0 0, .pointer none, .pointer none, .pointer none, .pointer none, iQ 0]) rfl aR l rfl (Qaa rfl) rfl
    (bW (l' := [pV x.r, pV x.c, pV x.m, pV a, pV b, pV d, pV x.v, pV x.t, .bool false, .int .u32 0, .int .u32 0, .int .u32 0, .int .u32 0, iQ c.cats, .slice c.ga c.gl.length c.gc, .slice c.ra c.rl.length c.rc, .slice c.pa c.pl.length c.pc, .slice c.na c.nl.length c.nc, .slice c.sa c.sl.length c.sc, iQ c.gate, iQ c.quota, iQ i, wv, .pointer none, .pointer none, .pointer none, .pointer none, iQ 0]) rfl Cd n h (Qaa rfl) rfl
    (bW (l' := [pV x.r, pV x.c, pV x.m, pV a, pV b, pV d, pV x.v, pV x.t, .bool false, .int .u32 0, .int .u32 0, .int .u32 0, .int .u32 0, iQ c.cats, .slice c.ga c.gl.length c.gc, .slice c.ra c.rl.length c.rc, .slice c.pa c.pl.length c.pc, .slice c.na c.nl.length c.nc, .slice c.sa c.sl.length c.sc, iQ c.gate, iQ c.quota, iQ i, wv, pV pb, .pointer none, .pointer none, .pointer none, iQ 0]) rfl Nj o rfl (Qaa rfl) rfl
    (bW (l' := [pV x.r, pV x.c, pV x.m, pV a, pV b, pV d, pV x.v, pV x.t, .bool false, .int .u32 0, .int .u32 0, .int .u32 0, .int .u32 0, iQ c.cats, .slice c.ga c.gl.length c.gc, .slice c.ra c.rl.length c.rc, .slice c.pa c.pl.length c.pc, .slice c.na c.nl.length c.nc, .slice c.sa c.sl.length c.sc, iQ c.gate, iQ c.quota, iQ i, wv, pV pb, pV pv, .pointer none, .pointer none, iQ 0]) rfl C8 p rfl (Qaa rfl) rfl
    (bW (l' := [pV x.r, pV x.c, pV x.m, pV a, pV b, pV d, pV x.v, pV x.t, .bool false, .int .u32 0, .int .u32 0, .int .u32 0, .int .u32 0, iQ c.cats, .slice c.ga c.gl.length c.gc, .slice c.ra c.rl.length c.rc, .slice c.pa c.pl.length c.pc, .slice c.na c.nl.length c.nc, .slice c.sa c.sl.length c.sc, iQ c.gate, iQ c.quota, iQ i, wv, pV pb, pV pv, pV f, .pointer none, iQ 0]) rfl Nb q rfl (Qaa rfl) rfl
    (bW (l' := [pV x.r, pV x.c, pV x.m, pV a, pV b, pV d, pV x.v, pV x.t, .bool false, .int .u32 0, .int .u32 0, .int .u32 0, .int .u32 0, iQ c.cats, .slice c.ga c.gl.length c.gc, .slice c.ra c.rl.length c.rc, .slice c.pa c.pl.length c.pc, .slice c.na c.nl.length c.nc, .slice c.sa c.sl.length c.sc, iQ c.gate, iQ c.quota, iQ i, wv, pV pb, pV pv, pV f, pV g, iQ 0]) rfl Na s rfl (Qaa rfl) rfl
    fz))))))))
def laid (c : Cfg) (i : Nat) (ws : List Nat) (fr : List aE) (po : Po) : Im := dq i (bz ws (dh c i).2.1.toNat) (dh c i).2.1.toNat ⟨fr, po, jI⟩
theorem a0H c (h : CfK W0 c) (T : rt c = true) i (L : i < c.gl.length) ps pb fr po (Z : cC fr) (hP : PoOk po) (hl : po.length = fr.length) (U : 0 < fr.length) (t : (dh c i).2.1 ≤ ((cm po i).length)) a cap ws (hs : ∀ A, cF (aT W0 A) a 1 j6 ws) (hb : ∀ y ∈ ws, y < 4294967296) (hn : ws.length < 9223372036854775808) : sP W0 24 [.agg (dI c).toArray, iQ i, pV ps, pV pb, .slice a ws.length cap] (cW pb (ps, po) :: bB ps fr :: R) (fun v B => ∃ E x M N F G H q r j I J, v = .tuple #[pV E, iQ 0] ∧ B = pt E (ag (B5 x F G H c i (.slice (some ⟨q, 0, none⟩) (bz ws 8).length (bz ws 8).length) pb r I J) 144) :: tu x i M N r (kH 6 (cu [pt F (qO true dJ), pt G (qO true dJ), pt H (qO true dJ)]) :: pt r (cB ps j 0) :: pt I mZ :: gx J [] :: pt q (ag ((bz ws 8).map wV) 46) :: pt j (bN (fH c i c.nl.length (laid c i ws fr po).pg)) :: cW pb (ps, (laid c i ws fr po).po) :: bB ps (laid c i ws fr po).fr :: R)) := by
 have O : ov c = 0 := Qas T;have P := lx T;have x0 := P.g4;have u := P.gs i L;obtain ⟨g, o, Q, V⟩ := (h.ok.g []).at_ L;obtain ⟨x, hx⟩ : ∃ x, c.gl[i] = x := ⟨_, rfl⟩
 have K : dh c i = x := by grind [dh]
 obtain ⟨n, w⟩ : ∃ n : Nat, x.2.1 = (n : Int) := ⟨x.2.1.toNat, by rw [K] at u; omega⟩
 have x1 : (dh c i).2.1.toNat = n := by grind
 have m : laid c i ws fr po = dq i (bz (bz ws 8) n) n ⟨fr, po, jI⟩ := by grind [laid, a0F]
 rw [m];rw [hx] at V;rw [K, w] at u t;have p : ImOk ⟨fr, po, jI⟩ := ⟨Z, hP, yq, hl⟩
 have e := uE (who := i) (words := bz (bz ws 8) n) (n := n) (by omega) p;have x2 := w8 ws 8;have W := e.len;have z : 0 < (dq i (bz (bz ws 8) n) n ⟨fr, po, jI⟩).fr.length := by
  have : ∀ k, (dq i (bz (bz ws 8) n) k ⟨fr, po, jI⟩).fr.length = fr.length := fun k => by
   induction k with
   | zero => rfl
   | succ k X =>
    rw [dq, kG];split;rw [(uD (uE (by omega) p).fr).2]; exact X;exact X
  rw [this]; exact U
 refine am func24 ntmps24 ?_;refine bA fun b5 => ?_;refine aG rfl (aC call7 (Jv c h.ok)) ?_;rintro _ s ⟨x3, rfl, d⟩;obtain rfl := d.symm;rw [O];refine aw ?_;refine cv (fun l => ?_) fun l => ?_;exact absurd l (by decide);refine dj rfl rfl rfl (fun C => ?_) fun C => ?_;omega;refine aw ?_;refine aD rfl (fun c2 => ?_) fun c2 => ?_;omega;refine aw ?_;refine aG rfl (aC call86 (WH)) ?_;rintro _ s ⟨j, rfl, d⟩;obtain rfl := d.symm;refine aw ?_;refine ah (ao wU (uq ps fr)) ?_;refine dj rfl rfl rfl (fun D => ?_) fun D => ?_;omega;refine au 6 ?_;refine aD rfl (fun Y => ?_) fun Y => ?_;cases Y;refine aw ?_;refine aG rfl (aC call87 (JC a cap 8 ws (hs _) (by decide) hn)) ?_;rintro _ s ⟨q, rfl, d⟩;obtain rfl := d.symm;refine aw ?_;refine aa (eR mu kQ rfl Q rfl rfl L (by first | exact Qac _ | rfl)) ?_;refine aa (aF (V.weak 1 _ (by rw [← w]; rfl : (ix x)[1]? = some (iQ (n : Int))))) ?_;refine ew 9 (cK call88 (JF pb ps j i n ⟨fr, po, jI⟩ p U (some ⟨q, 0, none⟩) (bz ws 8).length (bz ws 8) (by omega) (by omega) (by omega) EE (by show n ≤ (cm po i).length; omega) (by intro A K; exact (sX (b := q) Em (En _).symm).weak (k := K)) (fun y hy => hb y (QbG hy)) (by omega))) ?_;refine jR ?_;refine ew 6 (ao call89 (a0E c h i j _ e.pg P.nn)) ?_;refine aG rfl (cA call90 (WP ps j _ _ (yp e.pg _) z)) ?_;rintro _ s ⟨r, rfl, d⟩;obtain rfl := d.symm;refine au 14 ?_;refine jR ?_;refine aG rfl (ao NX (ED i r ps j 0 (by omega))) ?_;rintro _ s ⟨x_, M, N, F, G, H, rfl, d⟩;obtain rfl := d.symm;refine aw ?_;refine bi fun S => ?_;refine jb 10 aB ?_;refine jR ?_;refine bc [S, b5] 12 fun f => ?_;refine aj 0 6 f ?_;refine bX 6 (aC call92 (a0n)) ?_; clear f;rintro _ s ⟨I, rfl, d⟩;obtain rfl := d.symm;refine ⟨aV, fun f => ?_⟩;refine bX 7 (aC call93 (a0p)) ?_; clear f;rintro _ s ⟨J, rfl, d⟩;obtain rfl := d.symm;refine ⟨aV, fun f => ?_⟩;refine az 8 f (a0G rfl rfl rfl rfl rfl rfl rfl rfl rfl) ?_;refine bX 9 (kh rfl) ?_; clear f;rintro _ _ ⟨E, rfl, rfl⟩;refine ⟨aV, fun f => ?_⟩;refine aj 10 2 f ?_;refine aK ?_;refine aA ?_;refine ⟨_, ⟨E, x_, M, N, F, G, H, q, r, j, I, J, rfl, rfl⟩, IO⟩
section
variable {W0 : World} {N : FSz} {K : Act → World → Prop} {e : b0} {A R : List HP} {b : Nat} {l : List Value} {T : TypeId}
end
theorem a0I (b i : Nat) : sQ W0 267 [pV b] (pt b (ag [.int .u32 0, .int .u32 0, .int .u32 0, .int .u32 0, .int .u32 0, .int .u32 0, .int .u32 0, iQ i] 105) :: R) (.tuple #[]) (pt b (ag [.int .u32 0, .int .u32 0, .int .u32 0, .int .u32 0, .int .u32 0, .int .u32 4, .int .u32 0, iQ i] 105) :: R) := by
 refine am func267 ntmps267 ?_;refine aa (xy iP aU Gj rfl) ?_;refine av (iK (Qaa rfl) SetRL.eq) ?_;refine aa (eL (by decide)) ?_;refine av eg ?_;refine bK (.inr rfl) .nil ?_;exact ap
theorem a0J (i : Nat) (d : i < 4) : sP W0 184 [iQ i] R (fun v B => ∃ b, v = .tuple #[pV b, iQ 0] ∧ B = pt b (ag [.int .u32 0, .int .u32 0, .int .u32 0, .int .u32 0, .int .u32 0, .int .u32 4, .int .u32 0, iQ i] 105) :: R) := by
 refine am func184 ntmps184 ?_;refine dj rfl rfl rfl (fun a => ?_) fun a => ?_;omega;refine aw ?_;refine aD rfl (fun c => ?_) fun c => ?_;omega;refine aw ?_;refine bA fun b => ?_;refine ah (ao call267 (a0I b i)) ?_;refine aA ?_;exact ⟨_, ⟨_, rfl, rfl⟩, IO⟩
@[reducible] def Kb (c : Cfg) (i : Nat) (wv : Value) (pb bb : Nat) : List Value := [.int .i64 c.cats, .slice c.ga c.gl.length c.gc, .slice c.ra c.rl.length c.rc, .slice c.pa c.pl.length c.pc, .slice c.na c.nl.length c.nc, .slice c.sa c.sl.length c.sc, .int .i64 c.gate, .int .i64 c.quota, .int .i64 i, wv, pV pb, .pointer none, .pointer none, .pointer none, .int .u32 0, .int .u32 0, .int .u32 0, .int .i64 0, .bool false, .int .i64 0, .int .i64 0, .int .i64 0, .int .u32 0, .int .u32 0, .int .u32 0, .int .i64 0, .bool false, .int .i64 0, .int .i64 0, .int .i64 0, .int .u32 0, .int .u32 0, .int .u32 0, .int .i64 0, .bool false, .int .i64 0, .int .i64 0, .int .i64 0, .pointer none, .pointer none, pV bb, .slice none 0 0, .int .i64 0, .bool false, .int .u32 0, .int .u32 0, .int .u32 0, .int .u32 0]
theorem a0K {S N e o0 o1 o2 o3 o4} {i pb a : Nat} {c wv} (b : wv.oneCell' = true) (d : ev e o0 = some (.agg (dI c).toArray)) (f : ev e o1 = some (iQ i)) (g : ev e o2 = some wv) (h : ev e o3 = some (pV pb)) (j : ev e o4 = some (pV a)) :
    bR Tryz.prog S N e (.build 101 #[(0, o0), (1, o1), (2, o2), (3, o3), (10, o4)]) (.agg (Kb c i wv pb a).toArray) :=
  fB (l' := Kb c i wv pb a) mr zeroValue101 (aL vg (aL aR (aL Cd (aL Nk (aL G8 (aL Nn (aL sizeOf87 (aL sizeOf94 (aL G9 (aL No (aL NY (aL Ce (aL aR (aL gO (aL Ga fA)))))))))))))))
    (kj (l' := [iQ c.cats, .slice c.ga c.gl.length c.gc, .slice c.ra c.rl.length c.rc, .slice c.pa c.pl.length c.pc, .slice c.na c.nl.length c.nc, .slice c.sa c.sl.length c.sc, iQ c.gate, iQ c.quota, iQ 0, .slice none 0 0, .pointer none, .pointer none, .pointer none, .pointer none, .int .u32 0, .int .u32 0, .int .u32 0, iQ 0, .bool false, iQ 0, iQ 0, iQ 0, .int .u32 0, .int .u32 0, .int .u32 0, iQ 0, .bool false, iQ 0, iQ 0, iQ 0, .int .u32 0, .int .u32 0, .int .u32 0, iQ 0, .bool false, iQ 0, iQ 0, iQ 0, .pointer none, .pointer none, .pointer none, .slice none 0 0, iQ 0, .bool false, .int .u32 0, .int .u32 0, .int .u32 0, .int .u32 0]) rfl vg d rfl (Qaa rfl) rfl
    (bW (l' := [iQ c.cats, .slice c.ga c.gl.length c.gc, .slice c.ra c.rl.length c.rc, .slice c.pa c.pl.length c.pc, .slice c.na c.nl.length c.nc, .slice c.sa c.sl.length c.sc, iQ c.gate, iQ c.quota, iQ i, .slice none 0 0, .pointer none, .pointer none, .pointer none, .pointer none, .int .u32 0, .int .u32 0, .int .u32 0, iQ 0, .bool false, iQ 0, iQ 0, iQ 0, .int .u32 0, .int .u32 0, .int .u32 0, iQ 0, .bool false, iQ 0, iQ 0, iQ 0, .int .u32 0, .int .u32 0, .int .u32 0, iQ 0, .bool false, iQ 0, iQ 0, iQ 0, .pointer none, .pointer none, .pointer none, .slice none 0 0, iQ 0, .bool false, .int .u32 0, .int .u32 0, .int .u32 0, .int .u32 0]) rfl aR f rfl (Qaa rfl) rfl
    (bW (l' := [iQ c.cats, .slice c.ga c.gl.length c.gc, .slice c.ra c.rl.length c.rc, .slice c.pa c.pl.length c.pc, .slice c.na c.nl.length c.nc, .slice c.sa c.sl.length c.sc, iQ c.gate, iQ c.quota, iQ i, wv, .pointer none, .pointer none, .pointer none, .pointer none, .int .u32 0, .int .u32 0, .int .u32 0, iQ 0, .bool false, iQ 0, iQ 0, iQ 0, .int .u32 0, .int .u32 0, .int .u32 0, iQ 0, .bool false, iQ 0, iQ 0, iQ 0, .int .u32 0, .int .u32 0, .int .u32 0, iQ 0, .bool false, iQ 0, iQ 0, iQ 0, .pointer none, .pointer none, .pointer none, .slice none 0 0, iQ 0, .bool false, .int .u32 0, .int .u32 0, .int .u32 0, .int .u32 0]) rfl Cd g b (Qaa rfl) rfl
    (bW (l' := [iQ c.cats, .slice c.ga c.gl.length c.gc, .slice c.ra c.rl.length c.rc, .slice c.pa c.pl.length c.pc, .slice c.na c.nl.length c.nc, .slice c.sa c.sl.length c.sc, iQ c.gate, iQ c.quota, iQ i, wv, pV pb, .pointer none, .pointer none, .pointer none, .int .u32 0, .int .u32 0, .int .u32 0, iQ 0, .bool false, iQ 0, iQ 0, iQ 0, .int .u32 0, .int .u32 0, .int .u32 0, iQ 0, .bool false, iQ 0, iQ 0, iQ 0, .int .u32 0, .int .u32 0, .int .u32 0, iQ 0, .bool false, iQ 0, iQ 0, iQ 0, .pointer none, .pointer none, .pointer none, .slice none 0 0, iQ 0, .bool false, .int .u32 0, .int .u32 0, .int .u32 0, .int .u32 0]) rfl Nk h rfl (Qaa rfl) rfl
    (bW (l' := [iQ c.cats, .slice c.ga c.gl.length c.gc, .slice c.ra c.rl.length c.rc, .slice c.pa c.pl.length c.pc, .slice c.na c.nl.length c.nc, .slice c.sa c.sl.length c.sc, iQ c.gate, iQ c.quota, iQ i, wv, pV pb, .pointer none, .pointer none, .pointer none, .int .u32 0, .int .u32 0, .int .u32 0, iQ 0, .bool false, iQ 0, iQ 0, iQ 0, .int .u32 0, .int .u32 0, .int .u32 0, iQ 0, .bool false, iQ 0, iQ 0, iQ 0, .int .u32 0, .int .u32 0, .int .u32 0, iQ 0, .bool false, iQ 0, iQ 0, iQ 0, .pointer none, .pointer none, pV a, .slice none 0 0, iQ 0, .bool false, .int .u32 0, .int .u32 0, .int .u32 0, .int .u32 0]) rfl NY j rfl (Qaa rfl) rfl
    fz)))))
theorem a0L {R qs c a fr vs} (b : vs.length = fr.length) : Ent (pt qs (ag [.slice a fr.length c] 129) :: osl 130 1 (.slice a fr.length c) vs :: ((vs.zip fr).map eY ++ R)) (cH qs fr :: R) := t2 (vs := vs) b rfl
theorem EF {P S N e x v} {l : List Value} {T fs nm} {i b c : Nat} {em tg pk bo} (f : ev e x = some (.agg l.toArray)) (g : P.underlying T = some (.struct fs)) (m : fs.toList[i]? = some ⟨nm, b, c, em, tg, pk, bo⟩)
    (h : ∀ w, (isAgg b).run P w = .ok false w) (j : l[c]? = some v) : bR P S N e (.field T x i) v := fun a w _ _ _ _ _ k _ => by
 have d : fs[i]? = some ⟨nm, b, c, em, tg, pk, bo⟩ := by grind
 simp only [execOp, Instr.field, k.eval f, Sem.run_bind, fq g, d, Result.andThen_ok, asAgg, Sem.run_pure];rw [vw h j]; rfl
section
variable {W0 : World} {N : FSz} {K : Act → World → Prop} {e : b0} {A B R R1 R2 R3 : List HP} {g n c : Nat} {a : Option Addr} {v : Value} {ls : List (List ByteArray)}
end
section
variable {W0 : World} {N : FSz} {K : Act → World → Prop} {e : b0} {A B R R1 R2 R3 R4 R5 R6 : List HP} {p n : Nat} {ps : List Prt}
end
theorem Kc {n f} : (List.replicate n cR).set f cR = List.replicate n cR := by
 simp_all
theorem EG {c f i} (a : rt c = true) (b : f < cM c) (h : lw c f = some i) : td c f = (1, (i : Int)) := by
 rw [td, Qad ⟨a, by omega, by have := (lx a).nd; rw [cM] at b; omega⟩, h]; rfl
theorem a0M {c f} (a : rt c = true) (b : f < cM c) (h : lw c f = none) : (td c f).1 = 2 := by
 rw [td, Qad ⟨a, by omega, by have := (lx a).nd; rw [cM] at b; omega⟩, h]; rfl
def f16 (b : List Nat) : List Value := (List.range 16).map fun i => bV (b.getD i 0)
section
variable {W0 : World} {N : FSz} {K : Act → World → Prop} {e : b0} {A B R R1 R2 R3 : List HP} {d : Nat} {x : Dk}
end
section
variable {rb vb pv tr : Nat} {cs : List Value}
theorem EH b rl (pc i : Nat) (e : rl.length = 16) (f : i < 16) : sQ W0 140 [pV b, iQ i] (pt b (dR rl pc) :: R) (.tuple #[wV (rl.getD i 0), iQ 0]) (pt b (dR rl pc) :: R) := by
 have a : hJ i = true := by grind [hJ]
 have g : (rl.map wV ++ [Value.bool true, wV pc])[i * 1]? = some (wV (rl.getD i 0)) := by
  grind
 refine jq 13 func140 ntmps140 ?_;refine aD rfl (fun c => ?_) fun c => ?_;cases c;refine aw ?_;refine ew 9 (ao GC (AS b rl pc e i)) ?_;refine ai (fun d => ?_) fun d => ?_;exact absurd d (by rw [a]; decide);refine aa (eL f) ?_;refine aa (aF (aJ g)) ?_;exact aA ap
theorem a0N k ck a b d (c : List Nat) (h : c.length = 16) zs (e : zs.length = 16) : dk ([iQ k, iQ ck, wV a, wV b, wV d] ++ zs) 5 (c.map wV) = [iQ k, iQ ck, wV a, wV b, wV d] ++ c.map wV :=
  xg (c.map wV) zs [iQ k, iQ ck, wV a, wV b, wV d] (by grind)
theorem EI {S N e o0 o1 o2 o3 o4 o5 k ck a b d} {c : List Nat} (f : c.length = 16) (g : ev e o0 = some (iQ k)) (h : ev e o1 = some (iQ ck)) (i : ev e o2 = some (wV a)) (j : ev e o3 = some (wV b)) (l : ev e o4 = some (wV d)) (m : ev e o5 = some (.agg (c.map wV).toArray)) :
    bR Tryz.prog S N e (.build 208 #[(0, o0), (1, o1), (2, o2), (3, o3), (4, o4), (5, o5)]) (.agg ([Value.int .i64 k, iQ ck, wV a, wV b, wV d] ++ c.map wV).toArray) :=
  fB (l' := [Value.int .i64 k, iQ ck, wV a, wV b, wV d] ++ c.map wV) a7W zy (aL aR (aL aR (aL aU (aL aU (aL aU (aL nY fA))))))
    (bW (l' := [iQ k, iQ 0, .int .u32 0, .int .u32 0, .int .u32 0] ++ List.replicate 16 (.int .u32 0)) rfl aR g rfl (Qaa rfl) rfl
    (bW (l' := [iQ k, iQ ck, .int .u32 0, .int .u32 0, .int .u32 0] ++ List.replicate 16 (.int .u32 0)) rfl aR h rfl (Qaa rfl) rfl
    (bW (l' := [iQ k, iQ ck, wV a, .int .u32 0, .int .u32 0] ++ List.replicate 16 (.int .u32 0)) rfl aU i rfl (Qaa rfl) rfl
    (bW (l' := [iQ k, iQ ck, wV a, wV b, .int .u32 0] ++ List.replicate 16 (.int .u32 0)) rfl aU j rfl (Qaa rfl) rfl
    (bW (l' := [iQ k, iQ ck, wV a, wV b, wV d] ++ List.replicate 16 (.int .u32 0)) rfl aU l rfl (Qaa rfl) rfl
    (kj rfl nY m (by grind) (by simp) (a0N k ck a b d c f _ (by simp)) fz))))))
theorem a0O b es k ck x y z rl (a : rl.length = 16) (c : es.length < 4096) : sQ W0 202 [pV b, .agg ([Value.int .i64 k, iQ ck, wV x, wV y, wV z] ++ rl.map wV).toArray] (gx b es :: R) (iQ 0) (gx b (es ++ [⟨k, ck, x, y, z, rl⟩]) :: R) := by
 have := a0q W0 R b es ⟨k, ck, x, y, z, rl⟩ c
 rwa [JZ (e := ⟨k, ck, x, y, z, rl⟩) a] at this
def qT (rl : List Nat) (e w : Nat) : List Nat := (rl.set 1 e).set 2 w
theorem a0P {l : List Nat} (h : l.length = 16) : ∃ g i j k m n o p q r a b c d e f, l = [g, i, j, k, m, n, o, p, q, r, a, b, c, d, e, f] := by
 match l, h with
 | [g, i, j, k, m, n, o, p, q, r, a, b, c, d, e, f], _ => exact ⟨g, i, j, k, m, n, o, p, q, r, a, b, c, d, e, f, rfl⟩
end
end
section
abbrev dA := Int × Int
abbrev jY := Int × Int × Int
def kM (k : dA) (e : jY) (u : Int) : It := ⟨k.1, k.2, e.1, e.2.1, e.2.2, u⟩
def jZ (k : dA) (l : List It) : List It := l.filter (fun x => decide (x.key ≠ k))
theorem tx {k l x} : x ∈ jZ k l ↔ x ∈ l ∧ x.key ≠ k := by simp [jZ]
theorem EJ {k : dA} {l : List It} (h : ∀ x ∈ l, x.key ≠ k) : jZ k l = l := QaV.2 fun x a => by simpa using h x a
structure Rep (its : List It) (now : Nat) (L : List It) : Prop where
  perm : its.Perm L
  heap : Heap its its.length
  sort : L.Pairwise (fun x y => x.u < y.u)
  le : ∀ x ∈ L, x.u ≤ (now : Int)
  keys : (L.map It.key).Nodup
theorem Rep.nil : Rep [] 0 [] := ⟨List.Perm.nil, fun c a => by simp at a, List.Pairwise.nil, fun _ h => by simp at h, QcY⟩
theorem Rep.length {its L now} (h : Rep its now L) : its.length = L.length := h.perm.length_eq
theorem Rep.keysI {its L now} (h : Rep its now L) : (its.map It.key).Nodup := (h.perm.map It.key).symm.nodup h.keys
def lP (k : dA) (x : It) (L : List It) : List It := jZ k L ++ [x]
theorem Kd {L k x} {now : Nat} (a : L.Pairwise (fun x y => x.u < y.u)) (b : ∀ x ∈ L, x.u ≤ (now : Int)) (d : x.u = (now : Int) + 1) : (lP k x L).Pairwise (fun x y => x.u < y.u) := by
 refine List.pairwise_append.2 ⟨a.filter _, List.pairwise_singleton _ _, fun y c z e => ?_⟩;obtain rfl : z = x := by grind
 have := b y (tx.1 c).1; omega
theorem Ke {L} {k : dA} {x : It} (h : (L.map It.key).Nodup) (c : x.key = k) : ((lP k x L).map It.key).Nodup := by
 unfold lP;rw [QaG];refine Qbp.2 ⟨?_, by simp, fun a d b f => ?_⟩;exact QcG (QcC _ Qby) h;obtain rfl : b = x.key := by grind
 obtain ⟨y, e, rfl⟩ := Qbc.1 d;rw [c]; exact (tx.1 e).2
theorem Kf {L k x} {now : Nat} (a : ∀ x ∈ L, x.u ≤ (now : Int)) (c : x.u = (now : Int) + 1) : ∀ y ∈ lP k x L, y.u ≤ (now + 1 : Nat) := fun y b => by
 rcases QaZ.1 b with h | h;have := a y (tx.1 h).1; omega;grind
theorem a0Q {its : List It} {k : dA} {i x} (hk : (its.map It.key).Nodup) (o : i < its.length) (he : (its.getD i default).key = k) : (its.set i x).Perm (lP k x its) := by
 have g : its.getD i default = its[i] := by grind
 rw [g] at he;have e : its = its.take i ++ its[i] :: its.drop (i + 1) := by simp_all
 have j : its.set i x = its.take i ++ x :: its.drop (i + 1) := by grind
 have m : jZ k its = its.take i ++ its.drop (i + 1) := by
  have c := hk;rw [e, QaG, QaL] at c;have a := Qbp.1 c;have n := Qbw.1 a.2.1
  conv => lhs; rw [e]
  unfold jZ;rw [QbC, List.filter_cons_of_neg (by simp [he])];have d := EJ (k := k) (l := its.take i) (fun y b h => a.2.2 y.key (QbO b) its[i].key (by simp) (by rw [h, he]));have f := EJ (k := k) (l := its.drop (i + 1)) (fun y b h => n.1 (by rw [he, ← h]; exact QbO b));unfold jZ at d f;rw [d, f]
 rw [j, lP, m];exact List.perm_middle.trans (List.perm_append_singleton x _).symm
theorem Rep.setI {its its' L now i} {k : dA} {x : It} (h : Rep its now L) (b : i < its.length) (he : (its.getD i default).key = k) (c : x.key = k) (a : x.u = now + 1)
    (d : its'.Perm (its.set i x)) (e : Heap its' its'.length) : Rep its' (now + 1) (lP k x L) :=
  ⟨d.trans ((a0Q h.keysI b he).trans ((h.perm.filter _).append_right _)), e, Kd h.sort h.le a, Kf h.le a, Ke h.keys c⟩
def nM (k : dA) (L : List It) : Option It := L.find? (fun x => decide (x.key = k))
theorem Rep.noneI {its L now} {k : dA} (h : Rep its now L) (b : ∀ x ∈ its, x.key ≠ k) : nM k L = none ∧ jZ k L = L :=
  ⟨QbU.2 fun x a => by simpa using b x (h.perm.mem_iff.2 a), EJ fun x a => b x (h.perm.mem_iff.2 a)⟩
theorem wm {L k y} (h : nM k L = some y) : y ∈ L ∧ y.key = k := ⟨Qcq h, by simpa using List.find?_some h⟩
theorem a0R {L} {k : dA} {y : It} (hk : (L.map It.key).Nodup) (b : y ∈ L) (he : y.key = k) : nM k L = some y := by
 cases c : nM k L with
 | none => exact absurd he (by simpa using QbU.1 c y b)
 | some z =>
  obtain ⟨f, d⟩ := wm c;have : z = y := by
   clear c
   induction L with
   | nil => simp at b
   | cons a L g =>
    simp only [QaL, Qbw] at hk;rcases QaQ.1 b with h | e;grind;grind
  rw [this]
theorem Rep.someI {its L now i} {k : dA} (h : Rep its now L) (a : i < its.length) (he : (its.getD i default).key = k) : nM k L = some (its.getD i default) := by
 have b : its.getD i default = its[i] := by grind
 refine a0R h.keys (h.perm.mem_iff.1 ?_) he;rw [b]; exact QaF a
theorem Rep.dropI {its its' L now} {k : dA} {y : It} (h : Rep its now L) (he : y.key = k) (a : (its' ++ [y]).Perm its) (c : Heap its' its'.length) : Rep its' now (jZ k L) := by
 have b : ((its' ++ [y]).map It.key).Nodup := (a.map _).symm.nodup h.keysI;rw [QaG] at b;have f := Qbp.1 b;have e : jZ k (its' ++ [y]) = its' := by
  simp_all [jZ, QbC, List.filter_cons_of_neg]
 refine ⟨?_, c, h.sort.filter _, fun x d => h.le x (tx.1 d).1, QcG (QcC _ Qby) h.keys⟩;have := (a.trans h.perm).filter (fun x => decide (x.key ≠ k));rw [← e]; exact this
theorem Rep.pushI {its its' L now} {k : dA} {x : It} (h : Rep its now L) (b : ∀ y ∈ its, y.key ≠ k) (c : x.key = k) (a : x.u = now + 1) (d : its'.Perm (its ++ [x])) (e : Heap its' its'.length) : Rep its' (now + 1) (lP k x L) :=
  ⟨by unfold lP; rw [(h.noneI b).2]; exact d.trans (h.perm.append_right _), e, Kd h.sort h.le a, Kf h.le a, Ke h.keys c⟩
theorem Rep.popI {its its' L now y} (h : Rep its now L) (f : (its' ++ [y]).Perm its) (i : Heap its' its'.length) (a : ∀ z ∈ its, y.u ≤ z.u) : Rep its' now L.tail := by
 have b : y ∈ L := (f.trans h.perm).mem_iff.1 (by simp)
 cases L with
 | nil => simp at b
 | cons z T =>
  have g := Qbi.1 h.sort;have c : y = z := by
   rcases QaQ.1 b with e | j;exact e;have l := g.1 y j;have m := a z (h.perm.mem_iff.2 (by simp));omega
  subst c;have d : (y :: its').Perm (y :: T) := (List.perm_append_singleton y its').symm.trans (f.trans h.perm);exact ⟨List.Perm.cons_inv d, i, g.2, fun x k => h.le x (QbF _ k), (Qbw.1 (by simpa using h.keys)).2⟩
def ly (room now : Nat) (k : dA) (e : jY) (L : List It) : List It :=
  if room < (lP k (kM k e (now + 1 : Nat)) L).length then (lP k (kM k e (now + 1 : Nat)) L).tail else lP k (kM k e (now + 1 : Nat)) L
def uM (now : Nat) (k : dA) (L : List It) : List It := match nM k L with | none => L | some y => lP k (kM k y.ent (now + 1 : Nat)) L
theorem B6 k L : (jZ k L).length ≤ L.length := QaM _ _
theorem B7 k x L : (lP k x L).length = (jZ k L).length + 1 := by simp [lP]
theorem EK {k L y} (h : nM k L = some y) : (jZ k L).length < L.length := by
 obtain ⟨a, b⟩ := wm h;exact List.length_filter_lt_length_iff_exists.2 ⟨y, a, by simpa using b⟩
theorem wn {room now k e L} (h : L.length ≤ room) : (ly room now k e L).length ≤ room := by
 grind [B6, ly, List.length_tail, B7]
theorem a0S {now k L} : (uM now k L).length ≤ L.length := by
 unfold uM; split;omega
 rename_i y a; rw [B7]; exact EK a
end
section
open Go.RowKit
@[reducible] def dx (room now : Nat) : List Value := [.int .i64 room, .int .i64 now, .bool true]
theorem wo b its room now L (k : dA) (e : jY) (n : Rep its now L) (U : L.length ≤ room) (V : room ≤ 4) (P : now < 1000000) : sP W0 348 [pQ b, .agg (iz k).toArray, .agg (pi e).toArray] (aZ b (its, dx room now) :: R) (fun v B => v = iQ 0 ∧ ∃ l, B = aZ b (l, dx room (now + 1)) :: R ∧ Rep l (now + 1) (ly room now k e L)) := by
 have Q := n.length;refine am func348 ntmps348 ?_;refine bA fun S => ?_;refine bA fun T => ?_;refine ah (ao zA (wi b its _ _)) ?_;refine bc [S, T] 8 fun a => ?_;refine aj 0 2 a ?_;refine az 2 a (fB Nu Gl (aL so (aL sq fA)) (kj rfl so rfl rfl (Qaa rfl) SetRL.eq (kj rfl sq rfl rfl (Qaa rfl) SetRL.eq fz))) ?_;refine aj 3 1 a ?_;refine fP (is := [4, 6]) (by kernel_rfl) rfl ⟨?_, ?_, trivial⟩;refine dL (ao NZ (Ka b its _ now P)) ?_; clear a;rintro _ W ⟨rfl, H⟩;obtain rfl := H.symm;refine ⟨aV, fun a => ?_⟩;refine az 5 a (fB vk sy (aL sr (aL aR fA)) (kj rfl sr rfl rfl (Qaa rfl) SetRL.eq (bW rfl aR rfl rfl (Qaa rfl) SetL.eq fz))) ?_;refine bX 6 (dQ sy) ?_; clear a;rintro _ _ ⟨D, rfl, rfl⟩;refine ⟨aV, fun a => ?_⟩;refine cj 7 aB fun a => ?_;refine aK ?_;refine aG rfl (ao GF (AZ b its _ k (by omega))) ?_;rintro _ _ ⟨r, rfl, rfl, E⟩;refine aw ?_;refine aD rfl (fun I => ?_) fun I => ?_;obtain ⟨i, rfl, m, F⟩ : ∃ i : Nat, r = (i : Int) ∧ i < its.length ∧ (its.getD i default).key = k := by
  rcases E with ⟨h, _⟩ | h;omega;exact h
 refine aw ?_;refine AV (b := b) (tt m) fun g c G J K M => ?_;refine bc [b, D] 9 fun a => ?_;refine aj 0 7 a ?_;refine az 7 a (bI m) ?_;refine cj 8 (iK (me its G i m) (n0 its G i (kM k e (now + 1 : Nat)) m)) fun a => ?_;refine aK ?_;refine EB (b := b) (its := its.set i (kM k e (now + 1 : Nat))) rfl (by simp) J K (by simpa [cQ iW] using M) ?_;refine aw ?_;refine aG rfl (ao O0 (EC b (its.set i (kM k e (now + 1 : Nat))) _ i (by simp; omega) (by grind) (by rw [Qam]; exact Ao n.heap m))) ?_;rintro _ _ ⟨rfl, l, rfl, o, t⟩;refine aw ?_;refine ae ?_;refine ⟨_, ⟨rfl, l, rfl, ?_⟩, IO⟩;have N := EK (n.someI m F);rw [ly, Qab (by rw [B7]; omega)];exact n.setI m F rfl (by simp [kM]) o (by rw [o.length_eq]; exact t);have u : ∀ x ∈ its, x.key ≠ k := by
  rcases E with ⟨_, h⟩ | ⟨i, h, _⟩;exact h;omega
 refine aw ?_;refine bc [D] 7 fun a => ?_;refine aj 0 6 a ?_;refine bX 6 (ao Cu (heapPush_spec b its (kM k e (now + 1 : Nat)) _ (by omega) n.heap)) ?_; clear a;rintro _ _ ⟨rfl, d, rfl, o, t⟩;have p := n.pushI u (x := kM k e (now + 1 : Nat)) rfl (by simp [kM]) o t;have w := p.length;have O : d.length = its.length + 1 := by rw [o.length_eq]; simp
 refine ⟨aV, fun a => ?_⟩;refine aK ?_;refine eV [(b, 1, dx room (now + 1))] 9 mixed rfl (bU AW bE) (fun a => ?_);refine aj 0 3 a ?_;refine aj 4 3 a ?_;refine az 7 a (aF (jB (k := 0) (j := 0) rfl rfl)) ?_;refine gB 3 rfl rfl (ao tT (rZ b d _)) (bU AW bE) fun a => ?_;refine aj 8 1 a ?_;refine aK ?_;refine ai (fun z => ?_) fun z => ?_;refine aG rfl (ao Cv (heapPop_spec b d _ (by omega) (tt (i := 0) (by omega)) t)) ?_;rintro _ _ ⟨y, q, rfl, rfl, A, C, s⟩;have f : Rep q (now + 1) (ly room now k e L) := by
  rw [ly, Qad (by omega)]; exact p.popI A C s
 refine aw ?_;refine ae ?_;exact ⟨_, ⟨rfl, _, rfl, f⟩, IO⟩;have f : Rep d (now + 1) (ly room now k e L) := by
  grind [ly]
 refine ae ?_;exact ⟨_, ⟨rfl, _, rfl, f⟩, IO⟩;skip;refine dL (dQ sy) ?_; clear a;rintro _ _ ⟨D, rfl, rfl⟩;refine ⟨aV, fun a => ?_⟩;refine bG 4 (ao NZ (Ka b its _ now P)) fun a => ?_;refine az 5 a (fB vk sy (aL sr (aL aR fA)) (kj rfl sr rfl rfl (Qaa rfl) SetRL.eq (bW rfl aR rfl rfl (Qaa rfl) SetL.eq fz))) ?_;refine cj 7 aB fun a => ?_;refine aK ?_;refine aG rfl (ao GF (AZ b its _ k (by omega))) ?_;rintro _ _ ⟨r, rfl, rfl, E⟩;refine aw ?_;refine aD rfl (fun I => ?_) fun I => ?_;obtain ⟨i, rfl, m, F⟩ : ∃ i : Nat, r = (i : Int) ∧ i < its.length ∧ (its.getD i default).key = k := by
  rcases E with ⟨h, _⟩ | h;omega;exact h
 refine aw ?_;refine AV (b := b) (tt m) fun g c G J K M => ?_;refine bc [b, D] 9 fun a => ?_;refine aj 0 7 a ?_;refine az 7 a (bI m) ?_;refine cj 8 (iK (me its G i m) (n0 its G i (kM k e (now + 1 : Nat)) m)) fun a => ?_;refine aK ?_;refine EB (b := b) (its := its.set i (kM k e (now + 1 : Nat))) rfl (by simp) J K (by simpa [cQ iW] using M) ?_;refine aw ?_;refine aG rfl (ao O0 (EC b (its.set i (kM k e (now + 1 : Nat))) _ i (by simp; omega) (by grind) (by rw [Qam]; exact Ao n.heap m))) ?_;rintro _ _ ⟨rfl, l, rfl, o, t⟩;refine aw ?_;refine ae ?_;refine ⟨_, ⟨rfl, l, rfl, ?_⟩, IO⟩;have N := EK (n.someI m F);rw [ly, Qab (by rw [B7]; omega)];exact n.setI m F rfl (by simp [kM]) o (by rw [o.length_eq]; exact t);have u : ∀ x ∈ its, x.key ≠ k := by
  rcases E with ⟨_, h⟩ | ⟨i, h, _⟩;exact h;omega
 refine aw ?_;refine bc [D] 7 fun a => ?_;refine aj 0 6 a ?_;refine bX 6 (ao Cu (heapPush_spec b its (kM k e (now + 1 : Nat)) _ (by omega) n.heap)) ?_; clear a;rintro _ _ ⟨rfl, d, rfl, o, t⟩;have p := n.pushI u (x := kM k e (now + 1 : Nat)) rfl (by simp [kM]) o t;have w := p.length;have O : d.length = its.length + 1 := by rw [o.length_eq]; simp
 refine ⟨aV, fun a => ?_⟩;refine aK ?_;refine eV [(b, 1, dx room (now + 1))] 9 mixed rfl (bU AW bE) (fun a => ?_);refine aj 0 3 a ?_;refine aj 4 3 a ?_;refine az 7 a (aF (jB (k := 0) (j := 0) rfl rfl)) ?_;refine gB 3 rfl rfl (ao tT (rZ b d _)) (bU AW bE) fun a => ?_;refine aj 8 1 a ?_;refine aK ?_;refine ai (fun z => ?_) fun z => ?_;refine aG rfl (ao Cv (heapPop_spec b d _ (by omega) (tt (i := 0) (by omega)) t)) ?_;rintro _ _ ⟨y, q, rfl, rfl, A, C, s⟩;have f : Rep q (now + 1) (ly room now k e L) := by
  rw [ly, Qad (by omega)]; exact p.popI A C s
 refine aw ?_;refine ae ?_;exact ⟨_, ⟨rfl, _, rfl, f⟩, IO⟩;have f : Rep d (now + 1) (ly room now k e L) := by
  grind [ly]
 refine ae ?_;exact ⟨_, ⟨rfl, _, rfl, f⟩, IO⟩
def yr (k : dA) (L : List It) : Value := match nM k L with
 | none => .tuple #[.agg (pi (0, 0, 0)).toArray, .bool false]
 | some y => .tuple #[.agg (pi y.ent).toArray, .bool true]
theorem EL b its room now L (k : dA) (f : Rep its now L) (D : L.length ≤ room) (E : room ≤ 4) (t : now < 1000000) : sP W0 343 [pQ b, .agg (iz k).toArray] (aZ b (its, dx room now) :: R) (fun v B => v = yr k L ∧ ∃ a d, d ≤ now + 1 ∧ B = aZ b (a, dx room d) :: R ∧ Rep a d (uM now k L)) := by
 have n := f.length;refine am func343 ntmps343 ?_;refine bA fun F => ?_;refine bi fun G => ?_;refine ah (ao zA (wi b its _ _)) ?_;refine aG rfl (ao GF (AZ b its _ k (by omega))) ?_;rintro _ _ ⟨r, rfl, rfl, o⟩;refine aw ?_;refine aD rfl (fun w => ?_) fun w => ?_;have j : ∀ x ∈ its, x.key ≠ k := by
  rcases o with ⟨_, h⟩ | ⟨i, h, _⟩;exact h;omega
 refine aw ?_;refine av aB ?_;refine aS (.cons (aX zf sq rfl rfl) (.cons (aN rfl) .nil)) ?_;refine ⟨_, ⟨?_, its, now, by omega, rfl, ?_⟩, IO⟩;simp [aO, yr, (f.noneI j).1];rw [uM, (f.noneI j).1]; exact f;obtain ⟨i, rfl, e, p⟩ : ∃ i : Nat, r = (i : Int) ∧ i < its.length ∧ (its.getD i default).key = k := by
  rcases o with ⟨h, _⟩ | h;omega;exact h
 refine aw ?_;refine AV (b := b) (tt e) fun g c q y z A => ?_;refine aw ?_;refine aa (bI e) ?_;refine aa (dt (cJ (a0r its q i e) rfl)) ?_;refine bi fun H => ?_;refine av aB ?_;refine eV [(b, 0, [.slice (some ⟨g, 0, none⟩) its.length c])] 11 mixed rfl (bU (pG rfl) bE) (fun l => ?_);refine aj 0 7 l ?_;refine gB 7 rfl rfl (ao NZ (K9 b _ _ now t)) (bU (pG rfl) bE) fun l => ?_;refine az 8 l (bI e) ?_;refine aj 9 1 l ?_;refine kv 10 rfl rfl (du (by omega) (a0s its q i _ e)) (bU (pG rfl) bE) fun l => ?_;refine aK ?_;refine EB (b := b) (its := its.set i { its.getD i default with u := (now + 1 : Nat) }) rfl (by simp) y z (by simpa [cQ iW] using A) ?_;refine aw ?_;refine aG rfl (ao O0 (EC b (its.set i { its.getD i default with u := (now + 1 : Nat) }) _ i (by simp; omega) (by grind) (by rw [Qam]; exact Ao f.heap e))) ?_;rintro _ _ ⟨rfl, a, rfl, s, C⟩;refine aw ?_;refine av aB ?_;refine aS (.cons (aX zf sq rfl rfl) (.cons (aN rfl) .nil)) ?_;have m := f.someI e p;refine ⟨_, ⟨?_, a, now + 1, by omega, rfl, ?_⟩, IO⟩;simp [aO, yr, m, It.ent];rw [uM, m]; subst p;exact f.setI e rfl rfl (by simp [kM]) s (by rw [s.length_eq]; exact C)
theorem EM b its tr now L (k : dA) (c : Rep its now L) (p : L.length ≤ 100) tw : sP W0 275 [pQ b, .agg (iz k).toArray] (aZ b (its, [tr, tw, .bool true]) :: R) (fun v B => v = .bool (nM k L).isSome ∧ ∃ a, B = aZ b (a, [tr, tw, .bool true]) :: R ∧ Rep a now (jZ k L)) := by
 have g := c.length;refine am func275 ntmps275 ?_;refine bA fun q => ?_;refine ah (ao zA (wi b its _ _)) ?_;refine aG rfl (ao GF (AZ b its _ k (by omega))) ?_;rintro _ _ ⟨r, rfl, rfl, j⟩;refine aw ?_;refine aD rfl (fun m => ?_) fun m => ?_;have d : ∀ x ∈ its, x.key ≠ k := by
  rcases j with ⟨_, h⟩ | ⟨i, h, _⟩;exact h;omega
 refine aw ?_;refine ae ?_;refine ⟨_, ⟨?_, its, rfl, ?_⟩, IO⟩;simp [aO, (c.noneI d).1];rw [(c.noneI d).2]; exact c;obtain ⟨i, rfl, l, e⟩ : ∃ i : Nat, r = (i : Int) ∧ i < its.length ∧ (its.getD i default).key = k := by
  rcases j with ⟨h, _⟩ | h;omega;exact h
 refine aw ?_;refine aG rfl (ao call272 (heapRemove_spec b its _ i (by omega) l c.heap)) ?_;rintro _ _ ⟨a, rfl, rfl, n, o⟩;refine aa (sK vk (fun _ h => by cases h) rfl) ?_;refine bi fun s => ?_;refine av aB ?_;refine aa (dt (cJ (vs := [iQ (its.getD i default).kr, iQ (its.getD i default).kp]) rfl rfl)) ?_;refine aa (vx Tryz.eqGuardType380 rfl rfl (u7 Ch Tryz.stoodInHeld380 (lJ rfl db rfl rfl (lI jL) (lJ rfl db rfl rfl (lI jL) u6)))) ?_;refine ae ?_;have f := c.someI l e;refine ⟨_, ⟨?_, a, rfl, c.dropI e n o⟩, IO⟩;rw [f]; subst e;simp [aO, It.key]
def B8 (lo : Nat) (l : List It) (n : Nat) : Prop := ∀ c, c < n → 0 < c → lo ≤ (c - 1) / 2 → us l ((c - 1) / 2) ≤ us l c
def wq (lo : Nat) (l : List It) (i n : Nat) : Prop := ∀ c, c < n → 0 < c → (lo ≤ (c - 1) / 2 → c ≠ i → (c - 1) / 2 ≠ i → us l ((c - 1) / 2) ≤ us l c) ∧ ((c - 1) / 2 = i → lo < i → us l ((i - 1) / 2) ≤ us l c)
theorem a0T {lo l i j n} (h : wq lo l i n) (p : lo ≤ i) (v : n ≤ l.length) (q : j < n) (g : (j - 1) / 2 = i) (r : 0 < j) (s : us l j < us l i)
    (k : ∀ c, c < n → 0 < c → (c - 1) / 2 = i → us l j ≤ us l c) : wq lo (swapL l i j) j n ∧ us (swapL l i j) ((j - 1) / 2) ≤ us (swapL l i j) j := by
 have t : i < j := by omega
 have d := kW (l := l) (i := i) (j := j) (by omega) (by omega);refine ⟨fun c a b => ⟨fun u e m => ?_, fun e m => ?_⟩, ?_⟩;rw [d, d];by_cases f : c = i;subst f;have := (h j q r).2 g (by omega);rw [Qab (by omega), Qab (by omega), Qad rfl]; exact this;by_cases o : (c - 1) / 2 = i;grind;rw [Qab o, Qab m, Qab f, Qab e]; exact (h c a b).1 u f o;rw [g, d, d, Qad rfl, Qab (by omega), Qab (by omega)];rw [← e]; exact (h c a b).1 (by omega) (by omega) (by omega);grind
theorem Kg {lo l i n} (h : wq lo l i n) (a : ∀ c, c < n → 0 < c → (c - 1) / 2 = i → us l i ≤ us l c) (j : lo < i → us l ((i - 1) / 2) ≤ us l i) : B8 lo l n := fun c b d e => by
 by_cases f : (c - 1) / 2 = i;grind;by_cases g : c = i;grind;exact (h c b d).1 e g f
theorem a0U {lo l n} (h : B8 (lo + 1) l n) : wq lo l lo n := fun c a b => ⟨fun d _ e => h c a b (by omega), fun _ h => absurd h (Nat.lt_irrefl _)⟩
theorem a0V b its tl i0 n (D : n ≤ its.length) (E : n < 1000) (F : i0 ≤ n) (G : wq i0 its i0 n) : sP W0 273 [nL b, iQ i0, iQ n] (aZ b (its, tl) :: R) (fun v B => ∃ l m, v = .bool m ∧ B = aZ b (l, tl) :: R ∧ l.Perm its ∧ B8 i0 l n) := by
 refine am NO ntmps273 ?_;refine d7 (fun X : List It × Nat => X.1.Perm its ∧ i0 ≤ X.2 ∧ wq i0 X.1 X.2 n ∧ (i0 < X.2 → us X.1 ((X.2 - 1) / 2) ≤ us X.1 X.2) ∧ X.2 ≤ n) (fun X => [(0, nL b), (1, iQ i0), (2, iQ n), (7, iQ X.2)]) (fun X => aZ b (X.1, tl) :: R) (fun X => n - X.2) (its, i0) ?_ ?_;grind;intro ⟨l, i⟩ ⟨h, k, r, s, t⟩;have o := h.length_eq;simp only at h k r s t o ⊢;refine aw ?_;refine aa uh ?_;refine aa (ee (2 * i + 1)) ?_;refine cv (fun p => ?_) fun p => ?_;refine ae ?_;refine ⟨_, ⟨l, decide (i0 < i), by simp [aO], rfl, h, Kg r ?_ s⟩, IO⟩
 first | (intro c d e f; exfalso; omega) | (intro c d e f; have := a c d e f; simp at g; omega)
 refine aD rfl (fun z => ?_) fun z => ?_;omega;refine au 8 ?_;refine dw (fun j : Nat => (j - 1) / 2 = i ∧ 0 < j ∧ j < n ∧ ∀ c, c < n → 0 < c → (c - 1) / 2 = i → us l j ≤ us l c) (fun j => [(0, nL b), (1, iQ i0), (2, iQ n), (7, iQ i), (9, iQ j)]) (fun j => aZ b (l, tl) :: R) ?_ ?_;refine au 3 ?_;refine aa (ee (2 * i + 2)) ?_;refine ci (fun q => ?_) fun q => ?_;refine ah (fT rfl ((fun w => yn w _)) Cz rfl (yk b l tl (2 * i + 2) (2 * i + 1) (by omega) (by omega))) ?_;refine ai (fun A => ?_) fun A => ?_;refine bY (2 * i + 2) ?_;refine ⟨by omega, by omega, by omega, fun c d e f => ?_⟩;have : c = 2 * i + 1 ∨ c = 2 * i + 2 := by omega
 rcases this with rfl | rfl <;> omega;refine bY (2 * i + 1) ?_;refine ⟨by omega, by omega, by omega, fun c d e f => ?_⟩;have : c = 2 * i + 1 ∨ c = 2 * i + 2 := by omega
 rcases this with rfl | rfl <;> omega;refine bY (2 * i + 1) ?_;refine ⟨by omega, by omega, by omega, fun c d e f => ?_⟩;have : c = 2 * i + 1 ∨ c = 2 * i + 2 := by omega
 rcases this with rfl | rfl <;> omega;intro j ⟨C, u, x, a⟩;refine aw ?_;refine ah (fT rfl ((fun w => yn w _)) Cz rfl (yk b l tl j i (by omega) (by omega))) ?_;refine aD rfl (fun g => ?_) fun g => ?_;refine au 15 ?_;refine ae ?_;refine ⟨_, ⟨l, decide (i0 < i), by simp [aO], rfl, h, Kg r ?_ s⟩, IO⟩
 first | (intro c d e f; exfalso; omega) | (intro c d e f; have := a c d e f; simp at g; omega)
 replace g : us l j < us l i := by simpa using g
 refine aw ?_;refine ah (fT rfl ((fun w => yo w _)) CB rfl (yl b l tl i j (by omega) (by omega))) ?_;refine bM (swapL l i j, j) ?_ (hμ := ?_);have y := a0T r k (by omega) x C u g a;exact ⟨(kF (by omega) (by omega)).trans h, by show i0 ≤ j; omega, y.1, fun _ => y.2, by show j ≤ n; omega⟩;show n - j < n - i; omega
theorem a0W b its tl (h : its.length < 1000) : sP W0 425 [nL b] (aZ b (its, tl) :: R) (fun v B => ∃ l, v = .tuple #[] ∧ B = aZ b (l, tl) :: R ∧ l.Perm its ∧ Heap l l.length) := by
 refine am func425 ntmps425 ?_;refine ah (fT rfl ((fun w => ym w _)) tT rfl (rZ b its tl)) ?_;refine aa (lZ rfl rfl (by decide) ((Qak (IntKind.wrap .i64) (oN its.length 2)).trans (bS (by omega)))) ?_;refine aa gW ?_;refine d7 (fun X : List It × Nat => X.1.Perm its ∧ X.2 ≤ its.length / 2 ∧ B8 X.2 X.1 its.length) (fun X => [(0, nL b), (2, iQ (its.length : Nat)), (3, iQ ((X.2 : Int) - 1))]) (fun X => aZ b (X.1, tl) :: R) (fun X => X.2) (its, its.length / 2) ?_ ?_;exact ⟨QaO _, Qao _, fun c j f n => by dsimp only at n; omega⟩;intro ⟨l, k⟩ ⟨a, o, d⟩;dsimp only at a o d ⊢;have g := a.length_eq;refine aw ?_;refine ai (fun p => ?_) fun p => ?_;obtain ⟨i, rfl⟩ : ∃ i, k = i + 1 := ⟨k - 1, by omega⟩
 have e : (((i + 1 : Nat) : Int) - 1) = (i : Int) := by omega
 rw [e];refine aG rfl (ao zu (a0V b l tl i its.length (by omega) h (by omega) (a0U d))) ?_;rintro _ _ ⟨q, m, rfl, rfl, r, s⟩;refine aw ?_;refine aa gW ?_;refine bM (q, i) ?_;grind;refine bK (.inr rfl) .nil ?_;obtain rfl : k = 0 := by omega
 exact ⟨_, ⟨l, rfl, rfl, a, fun c j f => d c (by omega) f (QaK _)⟩, IO⟩
structure PF (W0 : World) (f : FuncId) (cs : List Value) (C : HP) (p : It → Bool) : Prop where
  call : ∀ args w, (callFunc f args).run Tryz.prog w = .ok (.enter f args) w
  spec : ∀ x R, bH Tryz.prog W0 f ([] ++ [.agg (bT x).toArray] ++ cs) (kH 0 C :: R) (fun v B => v = .bool (p x) ∧ B = kH 0 C :: R)
theorem B9 {α : Type} {f} (h : ∀ x, fy (f x) = true) : ∀ l : List α, fy (l.flatMap f) = true
 | [] => rfl
 | x :: l => by
  have a := h x;have b := B9 h l;simp only [fy, QaX, List.all_append, Qar] at a b ⊢;exact ⟨a, b⟩
theorem a0X x : fy (bT x) = true := rfl
theorem a0Y its a c (r : its.length < 1000) (f : cF (aT W0 R) a 6 bT its) : sP W0 424 [.slice a its.length c] R (fun v B => ∃ g i, v = .slice g its.length i ∧ B = osl 446 6 (.slice g its.length i) (its.flatMap bT) :: R) := by
 refine am func424 ntmps424 ?_;refine aa (xv iD rfl rfl) ?_;refine aD rfl (fun e => ?_) fun e => ?_;refine au 7 ?_;refine ae ?_;have j : its = [] := by
  rcases its with _ | ⟨x, l⟩;rfl;obtain ⟨b, o, h, _⟩ := f 0 x rfl;rw [e] at h; cases h
 subst j;exact ⟨_, ⟨none, 0, rfl, rfl⟩, fQ⟩;have d := f.src iW (fun _ => trivial);refine ii (aH (aQ (aY (aG rfl (ui iD e9 rfl) ?_))));rintro _ _ ⟨s, rfl, rfl⟩;refine aw ?_
 refine aG rfl (Av (sz := 6) (by_ := 48) (info := Tryz.t446) iD (by kernel_rfl) rfl rfl rfl rfl (by decide) rfl rfl (news := its.flatMap bT) (by
 rcases d with h | ⟨k, m, n, p⟩;grind
 right; exact ⟨k, m, n, p.weak⟩) (cQ iW its) (B9 a0X its) (by simp only [maxLen]; omega) (by omega)) ?_
 rintro _ _ ⟨q, e, rfl, rfl⟩;refine aw ?_;refine ae ?_;rw [Qac, Qax];exact ⟨_, ⟨q, e, rfl, rfl⟩, IO⟩
def a0Z (its : List It) (p : It → Bool) (r : Int) : Prop := (r = -1 ∧ ∀ i, i < its.length → p (its.getD i default) = false) ∨ ∃ i : Nat, r = (i : Int) ∧ i < its.length ∧ p (its.getD i default) = true ∧ ∀ j, j < i → p (its.getD j default) = false
theorem a00 its a c f cs C p (k : PF W0 f cs C p) (x : its.length < 1000) : sP W0 372 [.slice a its.length c, .func (.func f) #[] cs.toArray] (osl 446 6 (.slice a its.length c) (its.flatMap bT) :: kH 0 C :: R) (fun v B => ∃ r, v = iQ r ∧ B = osl 446 6 (.slice a its.length c) (its.flatMap bT) :: kH 0 C :: R ∧ a0Z its p r) := by
 refine xq (fun d e => ?_) fun g n t l d e m o q => ?_;have u : its.length = 0 := by grind
 obtain rfl : its = [] := QaE u;cases d;refine am GE ntmps372 ?_;refine d7 (fun X : Nat => True) (fun X => [(7, iQ 0), (8, iQ X)]) (fun X => kH 0 C :: R) (fun X => X) 0 ?_ ?_;trivial;intro j w;refine aw ?_;refine aD rfl (fun h => ?_) fun h => ?_;omega;refine aw ?_;refine ae ?_;exact ⟨_, ⟨-1, rfl, rfl, .inl ⟨rfl, by simp⟩⟩, fQ⟩;cases d;refine am GE ntmps372 ?_;refine d7 (fun X : Nat => X ≤ its.length ∧ ∀ i, i < X → p (its.getD i default) = false) (fun X => [(0, .slice (some ⟨g, 0, none⟩) its.length c), (1, .func (.func f) #[] cs.toArray), (7, iQ (its.length : Nat)), (8, iQ X)]) (fun X => pt g (ag (its.flatMap bT ++ l) 446) :: kH 0 C :: R) (fun X => its.length - X) 0 ?_ ?_;grind;intro j ⟨w, b⟩;refine aw ?_;refine ai (fun h => ?_) fun h => ?_;refine aa (bI (by omega)) ?_;refine aa (dt (cJ (jX its l j (by omega)) rfl)) ?_;refine ah (uf (us := []) (cs := cs) rfl k.call rfl (k.spec (its.getD j default) _)) ?_;refine ai (fun s => ?_) fun s => ?_;refine ae ?_;exact ⟨_, ⟨_, rfl, rfl, .inr ⟨j, rfl, by omega, s, b⟩⟩, fC e m o q⟩;refine aa co ?_;refine bM (j + 1) ?_;grind;refine ae ?_;exact ⟨_, ⟨-1, rfl, rfl, .inl ⟨rfl, fun i y => b i (by omega)⟩⟩, fC e m o q⟩
def k0 (p : It → Bool) (l : List It) : List It := l.filter (fun x => !p x)
theorem Kh {p l} (h : ∀ i, i < l.length → p (l.getD i default) = false) : k0 p l = l := QaV.2 fun x b => by
 obtain ⟨i, a, rfl⟩ := Qbb.1 b;have := h i a;simpa [List.getD, a] using this
theorem EN {p} {l : List It} {j} (h : j < l.length) : k0 p (l.take (j + 1)) = k0 p (l.take j) ++ (if p (l.getD j default) then [] else [l.getD j default]) := by
 grind [Qap, k0]
structure DelI (p : It → Bool) (its l : List It) (i j : Nat) : Prop where
  len : l.length = its.length
  ij : i < j
  jl : j ≤ its.length
  front : l.take i = k0 p (its.take j)
  back : ∀ k, j ≤ k → l.getD k default = its.getD k default
theorem a01 {p} {l : List It} {i} (h : i < l.length) (b : p (l.getD i default) = true) (a : ∀ j, j < i → p (l.getD j default) = false) : k0 p (l.take (i + 1)) = l.take i := by
 grind [EN, Qaw, Kh]
theorem DelI.skip {p its l i j} (h : DelI p its l i j) (b : j < its.length) (a : p (l.getD j default) = true) : DelI p its l i (j + 1) := by
 refine ⟨h.len, by have := h.ij; omega, by omega, ?_, fun k c => h.back k (by omega)⟩;rw [h.back j (Qao _)] at a;rw [EN b, a, Qad rfl, Qaw]; exact h.front
theorem DelI.move {p its l i j} (h : DelI p its l i j) (b : j < its.length) (a : p (l.getD j default) = false) : DelI p its (l.set i (l.getD j default)) (i + 1) (j + 1) := by
 have c := h.ij;have d := h.len;have e := h.back j (Qao _);rw [e] at a ⊢;refine ⟨by rw [Qam]; exact d, by omega, by omega, ?_, fun k f => ?_⟩;rw [EN b, a, Qab (by decide), ← h.front, Qap (by rw [Qam]; omega), List.getElem_set_self, List.take_set_of_le (Qao _)];rw [← h.back k (by omega)];simp only [Qau];rw [QaP (by omega)]
theorem a02 its a c f cs C p (w : PF W0 f cs C p) (H : its.length < 1000) : sP W0 423 [.slice a its.length c, .func (.func f) #[] cs.toArray] (osl 446 6 (.slice a its.length c) (its.flatMap bT) :: kH 0 C :: R) (fun v B => ∃ D E, v = .slice D (k0 p its).length E ∧ B = osl 446 6 (.slice D (k0 p its).length E) ((k0 p its).flatMap bT) :: kH 0 C :: R) := by
 refine am func423 ntmps423 ?_;refine aG rfl (cA call372 (a00 its a c f cs C p w H)) ?_;rintro _ F ⟨r, rfl, d, G⟩;obtain rfl := d.symm;refine aw ?_;refine aD rfl (fun I => ?_) fun I => ?_;refine au 8 ?_;refine ae ?_;have k : ∀ i, i < its.length → p (its.getD i default) = false := by
  rcases G with ⟨_, h⟩ | ⟨i, h, _⟩;exact h;omega
 rw [Kh k];exact ⟨_, ⟨a, c, rfl, rfl⟩, IO⟩;obtain ⟨i, rfl, J, x, k⟩ : ∃ i : Nat, r = (i : Int) ∧ i < its.length ∧ p (its.getD i default) = true ∧ ∀ j, j < i → p (its.getD j default) = false := by
  rcases G with ⟨h, _⟩ | h;omega;exact h
 refine gk (r := osl 446 6) (b := .slice a its.length c) ?_;refine kt (fun y _ => by have := (Value.slice.inj y).2.1; omega) fun g n K e y T L U M => ?_;cases y;refine aw ?_;refine aa (ee (i + 1)) ?_;refine d7 (fun X : List It × Nat × Nat => DelI p its X.1 X.2.1 X.2.2) (fun X => [(0, .slice (some ⟨g, 0, none⟩) its.length c), (1, .func (.func f) #[] cs.toArray), (5, iQ X.2.1), (6, iQ X.2.2)]) (fun X => pt g (ag (X.1.flatMap bT ++ e) 446) :: kH 0 C :: R) (fun X => its.length - X.2.2) (its, i, i + 1) ?_ ?_;exact ⟨rfl, Nat.lt_succ_self _, by show i + 1 ≤ its.length; omega, (a01 J x k).symm, fun _ _ => rfl⟩;intro ⟨l, m, j⟩ hD;dsimp only at hD ⊢;have V := hD.len;have N := hD.ij;have O := hD.jl;refine aw ?_;refine aD rfl (fun P => ?_) fun P => ?_;refine au 2 ?_;refine dw (fun Z : List It × Nat => DelI p its Z.1 Z.2 (j + 1)) (fun Z => [(0, .slice (some ⟨g, 0, none⟩) its.length c), (1, .func (.func f) #[] cs.toArray), (5, iQ Z.2), (6, iQ j)]) (fun Z => pt g (ag (Z.1.flatMap bT ++ e) 446) :: kH 0 C :: R) ?_ ?_;refine au 5 ?_;refine aa (bI (by omega)) ?_;refine aa (dt (cJ (jX l e j (by omega)) rfl)) ?_;refine bi fun W => ?_;refine eU (fM e9 rfl rfl rfl rfl rfl) ?_;rintro _ _ rfl;refine aP (aH (aQ (aY (ac rfl (aM rfl) (ac rfl (ql lX e9 rfl rfl) ?_)))));refine aG rfl (uf (us := []) (cs := cs) rfl w.call rfl (w.spec (l.getD j default) _)) ?_;rintro _ F ⟨rfl, d⟩;obtain rfl := d.symm;refine ac rfl (qk rfl) (aP (aH ?_));refine aD rfl (fun z => ?_) fun z => ?_;have o : p (l.getD j default) = false := by simpa using z
 refine aQ (aY (ac rfl (aM rfl) (ac rfl (aM rfl) (ac rfl (ql lX e9 rfl rfl) ?_))));refine ac rfl (iF iD e9 rfl rfl rfl (by omega) (by first | exact Qac _ | rfl)) ?_;refine av (iK (me l e m (by omega)) (n0 l e m (l.getD j default) (by omega))) ?_;refine aa (ee (m + 1)) ?_;exact bY (l.set m (l.getD j default), m + 1) (hD.move (by omega) o);have o : p (l.getD j default) = true := by simpa using z
 refine aw ?_;exact bY (l, m) (hD.skip (by omega) o);intro ⟨Q, S⟩ hD2;refine aw ?_;refine aa (ee (j + 1)) ?_;refine bM (Q, S, j + 1) ?_ (hμ := ?_);exact hD2;show its.length - (j + 1) < its.length - j; omega;refine aw ?_;obtain rfl : j = its.length := by omega
 have q := hD.front;rw [QaW (Qao _)] at q;have A : (k0 p its).length = m := by rw [← q, QaT]; omega
 refine aa (vY iD e9 rfl rfl rfl (by omega) (by omega) (Qac _)) ?_;refine eU (Eb iD sy (by simp [Value.cells, Value.oneCell']) rfl (by omega) (by rw [Qae, cQ iW]; show m * 6 + (its.length - m) * 6 ≤ _; omega)) ?_;rintro _ F ⟨u, s, rfl, d⟩;obtain rfl := d.symm;replace s : u.length = (its.length - m) * 6 := s;have t : dk (l.flatMap bT ++ e) (m * 6) u = (k0 p its).flatMap bT ++ (u ++ e) := by
  rw [sJ _ _ _ (by rw [Qae, cQ iW]; omega), D4 iW l m e (by omega), q, show m * 6 + u.length = l.length * 6 by omega, xo iW l l.length e (Qao _)];simp
 rw [t];refine aw ?_;refine aa (oM iD e9 rfl rfl rfl (by omega)) ?_;refine ae ?_;rw [A];exact ⟨_, ⟨_, _, rfl, rfl⟩, fC (by omega) L (by rw [cQ iW, A]) (by rw [← M]; simp only [Qae, cQ iW, A, s]; omega)⟩
def i64 (r : Int) : Prop := -9223372036854775808 ≤ r ∧ r < 9223372036854775808
theorem Ki r : ((BitVec.ofInt 64 r).toNat) = r % 18446744073709551616 := by
 rw [BitVec.toNat_ofInt]; omega
theorem Kj n : n &&& 2 = 2 * (n / 2 % 2) := by
 apply Nat.eq_of_testBit_eq;intro i;rw [Nat.testBit_and, show (2 : Nat) = 2 ^ 1 from rfl, Nat.testBit_two_pow, Nat.testBit_two_pow_mul];by_cases h : i = 1;grind;grind [QcD, Qcb, Qcu, Nat.testBit_lt_two_pow]
theorem a03 {r} (h : i64 r) : eu .i64 r 2 = 2 * (r / 2 % 2) := by
 have a := Ki r;show IntKind.wrap .i64 ((BitVec.ofInt 64 r &&& BitVec.ofInt 64 2).toNat : Int) = _;rw [BitVec.toNat_and, show (BitVec.ofInt 64 2).toNat = 2 from rfl, Kj, bS (by omega)]
 push_cast
 omega
theorem a04 {r} (h : i64 r) : rz .i64 r 2 = r - 2 * (r / 2 % 2) := by
 have d := Ki r;generalize f : BitVec.ofInt 64 r = x at d;have e : (x &&& ~~~ BitVec.ofInt 64 2).toNat = x.toNat - (x.toNat &&& 2) := by
  have a : (x &&& ~~~ BitVec.ofInt 64 2) &&& (x &&& BitVec.ofInt 64 2) = 0#64 := by
   ext i hi;simp only [BitVec.getElem_and, BitVec.getElem_not, BitVec.getElem_zero];cases x[i] <;> cases (BitVec.ofInt 64 2)[i] <;> rfl
  have b : (x &&& ~~~ BitVec.ofInt 64 2) + (x &&& BitVec.ofInt 64 2) = x := by
   rw [BitVec.add_eq_or_of_and_eq_zero _ _ a];ext i hi;simp only [BitVec.getElem_or, BitVec.getElem_and, BitVec.getElem_not];cases x[i] <;> cases (BitVec.ofInt 64 2)[i] <;> rfl
  have c := Qak BitVec.toNat b;rw [BitVec.toNat_add_of_and_eq_zero a, BitVec.toNat_and x (BitVec.ofInt 64 2), show (BitVec.ofInt 64 2).toNat = 2 from rfl] at c;omega
 show IntKind.wrap .i64 ((BitVec.ofInt 64 r &&& ~~~ BitVec.ofInt 64 2).toNat : Int) = _;rw [f, e, Kj];have g := x.isLt;obtain ⟨b, c⟩ := h;simp only [IntKind.wrap, IntKind.bits, IntKind.signed];simp;omega
def wB (r : Int) : Bool := decide (r / 2 % 2 = 1)
theorem Ba {r} (h : i64 r) : (eu .i64 r 2 ≠ 0) ↔ wB r = true := by rw [a03 h, wB, Qaj]; omega
theorem Kk {r} (h : i64 r) : rz .i64 r 2 = if wB r then r - 2 else r := by
 grind [a04, wB]
def hit (page : Int) (x : It) : Bool := decide (x.ep = page) && wB x.er
def jJ (page : Int) (x : It) : It := if hit page x then { x with er := x.er - 2 } else x
theorem Kl page x : (jJ page x).key = x.key := by unfold jJ; split <;> rfl
theorem yt page x : (jJ page x).u = x.u := by unfold jJ; split <;> rfl
theorem a05 {page x} (h : i64 x.er) : i64 (jJ page x).er := by
 unfold jJ; split
 rename_i a
 simp only [hit, wB, Qar, Qaj] at a;obtain ⟨b, c⟩ := h;refine ⟨?_, ?_⟩;grind;grind;exact h
theorem a06 (its : List It) sp i r (a : i < its.length) : (its.flatMap bT ++ sp).set (i * 6 + 4) (iQ r) = (its.set i { its.getD i default with er := r }).flatMap bT ++ sp :=
  qp iW its i 4 _ _ sp a (by decide) (by simp [List.getD, a, bT])
structure NarI (page : Int) (its l : List It) (i n : Nat) : Prop where
  len : l.length = its.length
  il : i ≤ its.length
  front : l.take i = (its.take i).map (jJ page)
  back : ∀ k, i ≤ k → l.getD k default = its.getD k default
  cnt : n = ((its.take i).filter (hit page)).length
theorem NarI.step {page its l i n} (h : NarI page its l i n) (a : i < its.length) : NarI page its (l.set i (jJ page (l.getD i default))) (i + 1) (n + if hit page (l.getD i default) then 1 else 0) := by
 have d := h.len;have b := h.back i (Qao _);have c : its.getD i default = its[i] := by grind
 refine ⟨by rw [Qam]; exact d, by omega, ?_, fun k f => ?_, ?_⟩;rw [Qap (by rw [Qam]; omega), List.getElem_set_self, List.take_set_of_le (Qao _), h.front, Qap a, QaG, b, c]; rfl;rw [← h.back k (by omega)];simp only [Qau];rw [QaP (by omega)];rw [Qap a, QbC, Qae, ← h.cnt, b, c];cases e : hit page its[i] <;> simp [e]
theorem NarI.skip {page its l i n} (h : NarI page its l i n) (a : i < its.length) (b : hit page (l.getD i default) = false) : NarI page its l (i + 1) n := by
 have := h.step a;rw [jJ, b, Qab (by decide), Qab (by decide), QbK] at this;have c : l.set i (l.getD i default) = l := by
  have d : i < l.length := by rw [h.len]; exact a
  rw [show l.getD i default = l[i] by simp [List.getD, d], QbS]
 rwa [c] at this
theorem NarI.hits {page its l i n} (h : NarI page its l i n) (a : i < its.length) (b : hit page (l.getD i default) = true) : NarI page its (l.set i { l.getD i default with er := (l.getD i default).er - 2 }) (i + 1) (n + 1) := by
 have := h.step a;rw [jJ, b, Qad rfl, Qad rfl] at this;exact this
def nrN (page : Int) (L : List It) : Nat := (L.filter (hit page)).length
theorem Km {l f} (a : ∀ x, (f x).u = x.u) {i} (b : i < l.length) : us (l.map f) i = us l i := by
 grind [us_eq]
theorem Rep.nar {its L now} (h : Rep its now L) page : Rep (its.map (jJ page)) now (L.map (jJ page)) := by
 refine ⟨h.perm.map _, fun c d f => ?_, ?_, fun x g => ?_, ?_⟩;rw [Qav] at d;rw [Km (yt page) (by omega), Km (yt page) d];exact h.heap c d f;rw [List.pairwise_map];exact h.sort.imp fun {a b} e => by rw [yt, yt]; exact e
 obtain ⟨y, i, rfl⟩ := Qbc.1 g;rw [yt]; exact h.le y i;rw [Qcg, show It.key ∘ jJ page = It.key from funext fun x => Kl page x];exact h.keys
theorem a08 b its rm nw page (B : its.length < 1000) (t : ∀ x ∈ its, i64 x.er) : sQ W0 389 [pQ b, iQ page] (aZ b (its, [rm, nw, .bool true]) :: R) (iQ (nrN page its)) (aZ b (its.map (jJ page), [rm, nw, .bool true]) :: R) := by
 refine am func389 ntmps389 ?_;refine ah (ao zA (wi b its rm nw)) ?_;refine AU (b := b) fun C D => ?_;refine aw ?_;refine gU (fun X : List It × Nat × Nat => NarI page its X.1 X.2.1 X.2.2) (fun X => [(0, pQ b), (1, iQ page), (5, iQ X.2.2), (15, iQ (its.length : Nat)), (16, iQ X.2.1)]) (fun X => aZ b (X.1, [rm, nw, .bool true]) :: R) (fun X => its.length - X.2.1) (its, 0, 0) ?_ ?_ ?_ ?_;exact ⟨rfl, QaK _, by simp, fun _ _ => rfl, by simp⟩
 · repeat (first | exact bC | refine bq rfl ?_)
 exact rY rfl;intro ⟨l, i, n⟩ hD;dsimp only at hD ⊢;have E := hD.len;have u := hD.il;have v : n ≤ its.length := by
  rw [hD.cnt];exact QaN (QaM _ _) (by grind)
 refine aw ?_;refine aD rfl (fun w => ?_) fun w => ?_;have a : i < l.length := by omega
 have d : i64 (l.getD i default).er := by
  rw [hD.back i (Qao _)];have h : i < its.length := by omega
  have := t _ (QaF h)
  rwa [show its.getD i default = its[i] by simp [List.getD, h]]
 refine AV (b := b) (tt a) fun g c j F r s => ?_;refine au 2 ?_;refine dw (fun Z : List It × Nat => NarI page its Z.1 (i + 1) Z.2) (fun Z => [(0, pQ b), (1, iQ page), (5, iQ Z.2), (15, iQ (its.length : Nat)), (16, iQ i)]) (fun Z => aZ b (Z.1, [rm, nw, .bool true]) :: R) ?_ ?_;refine au 15 ?_;refine aa (bI a) ?_;refine aa (aF (aJ ((yj l j i 2 a (by decide)).trans rfl))) ?_;refine ci (fun k => ?_) fun k => ?_;refine aa (aF (aJ ((yj l j i 4 a (by decide)).trans rfl))) ?_;refine aa (eT rfl rfl rfl) ?_;refine ai (fun y => ?_) fun y => ?_;refine aa (aF (aJ ((yj l j i 4 a (by decide)).trans rfl))) ?_;refine aa (zM rfl rfl (by rw [Kk d, Qad ((Ba d).1 (by omega))] : rz .i64 (l.getD i default).er 2 = (l.getD i default).er - 2)) ?_;refine av (du (by have := me l j i a; omega) (a06 l j i ((l.getD i default).er - 2) a)) ?_;refine aa (ee (n + 1)) ?_;refine bY (l.set i { l.getD i default with er := (l.getD i default).er - 2 }, n + 1) ?_ (he := ?_);have m := (Ba d).1 (by omega);exact hD.hits (by omega) (by simp only [hit, Qar, Qaj]; exact ⟨by omega, m⟩);exact tq (b := b) rfl (by rw [Qam]) (by omega) r (by rw [← s]; simp [cQ iW]);refine bY (l, n) ?_ (he := ?_);refine hD.skip (by omega) ?_
 first
   | (have e : ¬ (l.getD i default).ep = page := by omega
      rw [hit, Qal e]; rfl)
   | (have m : ¬ wB (l.getD i default).er = true := fun q => absurd ((Ba d).2 q) (by omega)
      have f : wB (l.getD i default).er = false := by simpa using m
      rw [hit, f, QcT])
 exact tq (b := b) rfl rfl (by omega) r s;refine bY (l, n) ?_ (he := ?_);refine hD.skip (by omega) ?_
 first
   | (have e : ¬ (l.getD i default).ep = page := by omega
      rw [hit, Qal e]; rfl)
   | (have m : ¬ wB (l.getD i default).er = true := fun q => absurd ((Ba d).2 q) (by omega)
      have f : wB (l.getD i default).er = false := by simpa using m
      rw [hit, f, QcT])
 exact tq (b := b) rfl rfl (by omega) r s;intro ⟨z, A⟩ hD2;refine aw ?_;refine aa co ?_;refine bM (z, i + 1, A) ?_ (hμ := ?_);exact hD2;show its.length - (i + 1) < its.length - i; omega;refine aw ?_;refine ae ?_;obtain rfl : i = its.length := by omega
 have o := hD.front;have p := hD.cnt;rw [QaW (by omega), QaW (Qao _)] at o;rw [QaW (Qao _)] at p;rw [p, o];exact ap
theorem Rep.keep {its its' L now p} (h : Rep its now L) (a : its'.Perm (k0 p its)) (b : Heap its' its'.length) : Rep its' now (k0 p L) :=
  ⟨a.trans (h.perm.filter _), b, h.sort.filter _, fun x c => h.le x (QaC.1 c).1, QcG (QcC _ Qby) h.keys⟩
theorem a09 p l : (k0 p l).length ≤ l.length := QaM _ _
theorem a1a b its tl f cs C p (i : PF W0 f cs C p) (g : its.length < 1000) : sP W0 397 [pQ b, .func (.func f) #[] cs.toArray] (aZ b (its, tl) :: kH 0 C :: R) (fun v B => ∃ l, v = iQ (its.length - (k0 p its).length : Nat) ∧ B = aZ b (l, tl) :: kH 0 C :: R ∧ l.Perm (k0 p its) ∧ Heap l l.length) := by
 have j := a09 p its;refine am func397 ntmps397 ?_;refine ah (ao tT (rZ b its tl)) ?_;refine AU (b := b) fun a c => ?_;refine mH (E := 446) (sz := 6) (a := a) (n := its.length) (c := c) bT its iW (by decide) rfl (fun k => ?_);refine aw ?_;refine aG rfl (aC call424 (a0Y its a c g k)) ?_;rintro _ h ⟨m, o, rfl, d⟩;obtain rfl := d.symm;refine aw ?_;refine aG rfl (cA call423 (a02 its m o f cs C p i g)) ?_;rintro _ h ⟨s, t, rfl, d⟩;obtain rfl := d.symm;refine aw ?_;refine av eg ?_;refine dr (B := aZ b (k0 p its, tl) :: kH 0 C :: R) (rY rfl) ?_;refine aw ?_;refine aG rfl (ao call425 (a0W b (k0 p its) tl (by omega))) ?_;rintro _ h ⟨l, rfl, d, e, q⟩;obtain rfl := d.symm;have r := e.length_eq;refine aw ?_;refine ah (ao tT (rZ b l tl)) ?_;refine aa (o8 (its.length - (k0 p its).length)) ?_;refine ae ?_;exact ⟨_, ⟨l, rfl, rfl, e, q⟩, IO⟩
theorem a1b W0 : PF W0 398 [] (cu []) (fun _ => true) := ⟨call398, fun x R => by
 refine am func398 ntmps398 ?_;refine bA fun a => ?_;exact ae ap
 ⟩
theorem Bb l : k0 (fun _ => true) l = [] := by simp [k0]
theorem a1c b its rm nw now L (e : Rep its now L) (g : its.length < 1000) : sP W0 367 [pQ b] (aZ b (its, [rm, nw, .bool true]) :: R) (fun v B => v = iQ L.length ∧ ∃ a, B = aZ b (a, [rm, nw, .bool true]) :: R ∧ Rep a now []) := by
 have c := e.length;refine am func367 ntmps367 ?_;refine ah (ao zA (wi b its rm nw)) ?_;refine dr (B := aZ b (its, [rm, nw, .bool true]) :: kH 0 (cu []) :: R) inferInstance ?_;refine aw ?_;refine aG rfl (cA call397 (a1a b its _ 398 [] _ _ (a1b W0) g)) ?_;rintro _ j ⟨l, rfl, d, h, i⟩;obtain rfl := d.symm;rw [Bb] at h;rw [Bb, c];refine aw ?_;refine ae ?_;have f := e.keep (p := fun _ => true) (by grind [Bb]) i;rw [Bb] at f;exact ⟨_, ⟨rfl, l, rfl, f⟩, IO⟩
structure Ln where
  k : dA
  e : jY
  rt : Int
  lf : Int
instance : Inhabited Ln := ⟨⟨(0, 0), (0, 0, 0), 0, 0⟩⟩
@[reducible] def cT (x : Ln) : List Value := [.int .i64 x.k.1, .int .i64 x.k.2, .int .i64 x.e.1, .int .i64 x.e.2.1, .int .i64 x.e.2.2, .int .i64 x.rt, .int .i64 x.lf]
theorem nN x : (cT x).length = 7 := rfl
theorem Kn x : fy (cT x) = true := rfl
def Ln.thr (x : Ln) (p : Int) : Bool := decide (x.rt = p) || decide (x.lf = p)
theorem tz {x : Ln} {p} : x.thr p = true ↔ x.rt = p ∨ x.lf = p := by simp [Ln.thr]
def hQ (L : List Ln) (p : Int) : Bool := L.any fun x => x.thr p
theorem uN {L p} : hQ L p = true ↔ ∃ x ∈ L, x.thr p = true := by simp [hQ]
def iA (r : Int) : Int := if wB r then r - 2 else r
theorem Bc r : wB (iA r) = false := by
 grind [iA, wB]
def Ln.nar (x : Ln) : Ln := { x with e := (x.e.1, x.e.2.1, iA x.e.2.2) }
theorem Ko {x : Ln} (h : wB x.e.2.2 = false) : x.nar = x := by
 obtain ⟨k, ⟨a, b, c⟩, r, l⟩ := x;simp only [Ln.nar, iA] at h ⊢;rw [h]; rfl
def mg (L : List Ln) (r l : Int) : List Int := (if r = l then [r] else [min r l, max r l]).filter fun p => !hQ L p
theorem Kp {L r l p} : p ∈ mg L r l ↔ (p = r ∨ p = l) ∧ hQ L p = false := by
 grind [mg]
def dX (r l : Int) (x : Ln) : Ln := if x.e.1 = r ∨ x.e.1 = l then x.nar else x
def wt (L : List Ln) : List Ln := match L.getLast? with
 | none => []
 | some y => L.dropLast ++ [if hQ L y.e.1 then y.nar else y]
def yu (k : dA) (e : jY) (r l : Int) (L : List Ln) : List Ln := L.filter (fun x => decide (x.k ≠ k)) ++ [⟨k, e, r, l⟩]
def yw (L : List Ln) : List Ln := if 32 < L.length then L.tail else L
def mh (k : dA) (e : jY) (r l : Int) (L : List Ln) : List Ln := wt ((yw (yu k e r l L)).map (dX r l))
def l5 (k : dA) (L : List Ln) : Option Ln := L.find? fun x => decide (x.k = k)
theorem Kq L y : wt (L ++ [y]) = L ++ [if hQ (L ++ [y]) y.e.1 then y.nar else y] := by
 grind [wt]
theorem a1d (x : Ln) p : x.nar.thr p = x.thr p := rfl
theorem Kr r l x p : (dX r l x).thr p = x.thr p := by unfold dX; split <;> rfl
theorem Ks r l x : (dX r l x).k = x.k := by unfold dX; split <;> rfl
theorem Ku r l x : (dX r l x).e.1 = x.e.1 := by unfold dX; split <;> rfl
theorem Kv {f} (h : ∀ x p, (f x).thr p = x.thr p) L p : hQ (L.map f) p = hQ L p := by
 grind [hQ]
theorem Kw A B p : hQ (A ++ B) p = (hQ A p || hQ B p) := by simp [hQ]
def k7 (k : dA) (L : List Ln) : List Ln := if 31 < (L.filter fun x => decide (x.k ≠ k)).length then (L.filter fun x => decide (x.k ≠ k)).tail else L.filter fun x => decide (x.k ≠ k)
theorem Kx k L : (k7 k L).Sublist (L.filter fun x => decide (x.k ≠ k)) := by
 grind [k7]
theorem EO {k L x} (h : x ∈ k7 k L) : x ∈ L ∧ x.k ≠ k := by
 grind [Kx]
theorem Ky {k L} (h : L.length ≤ 32) : (k7 k L).length ≤ 31 := by
 grind [QaM, k7]
def lz (k : dA) (e : jY) (r l : Int) (L : List Ln) : Ln :=
  if hQ (k7 k L) e.1 || (⟨k, e, r, l⟩ : Ln).thr e.1 then (⟨k, e, r, l⟩ : Ln).nar else ⟨k, e, r, l⟩
theorem a1e (x : Ln) : x.nar.nar = x.nar := Ko (Bc _)
theorem EP k e r l L (h : L.length ≤ 32) : mh k e r l L = (k7 k L).map (dX r l) ++ [lz k e r l L] := by
 have a : yw (yu k e r l L) = k7 k L ++ [⟨k, e, r, l⟩] := by
  grind [yw, yu, k7]
 unfold mh;rw [a, QaG, QcH, Kq];congr 1;rw [← QcH (f := dX r l), ← QaG, Kv (Kr r l), Kw, Ku];have b : hQ [(⟨k, e, r, l⟩ : Ln)] e.1 = (⟨k, e, r, l⟩ : Ln).thr e.1 := by simp [hQ]
 rw [b];unfold lz;by_cases q : e.1 = r ∨ e.1 = l;have c : dX r l ⟨k, e, r, l⟩ = (⟨k, e, r, l⟩ : Ln).nar := Qad q;have d : (⟨k, e, r, l⟩ : Ln).thr e.1 = true := by
  grind [tz]
 rw [c, d, QcZ, Qad rfl, Qad rfl, a1e];grind [dX]
theorem Be k e r l L : (lz k e r l L).k = k := by unfold lz; split <;> rfl
theorem EQ k e r l L : lz k e r l L = ⟨k, e, r, l⟩ ∨ lz k e r l L = (⟨k, e, r, l⟩ : Ln).nar := by unfold lz; split <;> simp
structure TI (L : List Ln) (TL : List It) : Prop where
  keys : (L.map Ln.k).Nodup
  len : L.length ≤ 32
  nowr : ∀ x ∈ L, wB x.e.2.2 = true → hQ L x.e.1 = false
  sub : ∀ y ∈ TL, ∃ x ∈ L, x.k = y.key ∧ x.e = y.ent
theorem TI.nil : TI [] [] := ⟨QcY, QaK _, fun x a => by simp at a, fun y b => by simp at b⟩
theorem wu {k L x} (h : l5 k L = some x) : x ∈ L ∧ x.k = k := ⟨Qcq h, by simpa using List.find?_some h⟩
theorem Kz {L : List Ln} (h : (L.map Ln.k).Nodup) {x y} (b : x ∈ L) (d : y ∈ L) (e : x.k = y.k) : x = y := by
 induction L with
 | nil => simp at b
 | cons a L f =>
  simp only [QaL, Qbw] at h;rcases QaQ.1 b with rfl | c;grind;grind
theorem uO {L} (h : (L.map Ln.k).Nodup) {x} (a : x ∈ L) : l5 x.k L = some x := by
 cases b : l5 x.k L with
 | none =>
  have := QbU.1 b x a;simp at this
 | some z =>
  obtain ⟨c, d⟩ := wu b;rw [Kz h c a d]
theorem TI.drop {L TL TL'} (h : TI L TL) (f : Ln → Bool) (d : ∀ y ∈ TL', y ∈ TL ∧ ∀ x ∈ L, f x = true → y.key ≠ x.k) : TI (L.filter fun x => !f x) TL' := by
 refine ⟨QcG (QcC _ Qby) h.keys, QaN (QaM _ _) h.len, fun x a e => ?_, fun y g => ?_⟩;have a := (QaC.1 a).1;have := h.nowr x a e;rw [← Qat, uN] at this ⊢;rintro ⟨z, i, b⟩;exact this ⟨z, (QaC.1 i).1, b⟩;obtain ⟨j, l⟩ := d y g;obtain ⟨x, a, c, m⟩ := h.sub y j;refine ⟨x, QaC.2 ⟨a, ?_⟩, c, m⟩
 cases n : f x with
 | false => rfl
 | true => exact absurd c.symm (l x a n)
theorem ER {k x y L} : y ∈ lP k x L ↔ (y ∈ L ∧ y.key ≠ k) ∨ y = x := by simp [lP, tx]
theorem TI.getT {L TL} (h : TI L TL) now k : TI L (uM now k TL) := by
 refine ⟨h.keys, h.len, h.nowr, fun y a => ?_⟩;unfold uM at a
 cases b : nM k TL with
 | none => rw [b] at a; exact h.sub y a
 | some z =>
  rw [b] at a;obtain ⟨c, d⟩ := wm b;rcases ER.1 a with ⟨q, _⟩ | rfl;exact h.sub y q;obtain ⟨x, e, f, g⟩ := h.sub z c;exact ⟨x, e, by rw [f, d]; rfl, by rw [g]; rfl⟩
theorem KA {room now k e L y} (h : y ∈ ly room now k e L) : (y ∈ L ∧ y.key ≠ k) ∨ y = kM k e (now + 1 : Nat) := by
 unfold ly at h;split at h;exact ER.1 (List.mem_of_mem_tail h);exact ER.1 h
theorem TI.putT {L TL} (h : TI L TL) room now {x} (a : x ∈ L) : TI L (ly room now x.k x.e TL) := by
 refine ⟨h.keys, h.len, h.nowr, fun y b => ?_⟩;rcases KA b with ⟨q, _⟩ | rfl;exact h.sub y q;exact ⟨x, a, rfl, rfl⟩
def ji (l : List Int) (TL : List It) : List It := l.foldl (fun A p => A.map (jJ p)) TL
theorem a1f p y : (jJ p y).ent = if y.ep = p then (y.ent.1, y.ent.2.1, iA y.ent.2.2) else y.ent := by
 unfold jJ hit iA;by_cases q : y.ep = p;rw [Qah q, Qbe, Qad q];show _ = (y.ep, y.ef, if wB y.er = true then y.er - 2 else y.er);cases a : wB y.er <;> rfl;grind
theorem a1g {l} : ∀ {TL : List It} {y : It}, y ∈ ji l TL → ∃ z ∈ TL, y.key = z.key ∧ y.ent = if z.ep ∈ l then (z.ent.1, z.ent.2.1, iA z.ent.2.2) else z.ent := by
 induction l with
 | nil => intro TL y h; exact ⟨y, h, rfl, by simp⟩
 | cons p l b =>
  intro TL y h;obtain ⟨z, c, d, e⟩ := b (TL := TL.map (jJ p)) h;obtain ⟨w, f, rfl⟩ := Qbc.1 c;refine ⟨w, f, by rw [d, Kl], ?_⟩;have a : (jJ p w).ep = w.ep := by grind [jJ]
  rw [e, a, a1f];by_cases g : w.ep = p;grind [QaQ.2, Bc, iA];grind
theorem TI.fill {L TL} (h : TI L TL) k e r l room now :
    TI (mh k e r l L) ((ly room now k (lz k e r l L).e (ji (mg L r l) TL)).filter fun y => (l5 y.key (mh k e r l L)).isSome) := by
 have i := EP k e r l L h.len;have c : ∀ x ∈ k7 k L, x ∈ L ∧ x.k ≠ k := fun x d => EO d;have w : ∀ p, hQ (mh k e r l L) p = (hQ (k7 k L) p || (⟨k, e, r, l⟩ : Ln).thr p) := fun p => by
  rw [i, Kw, Kv (Kr r l)];congr 1;rcases EQ k e r l L with q | q <;> rw [q] <;> simp [hQ, a1d]
 have f : ((mh k e r l L).map Ln.k).Nodup := by
  rw [i, QaG, Qcg, show Ln.k ∘ dX r l = Ln.k from funext fun x => Ks r l x, QcH, Be];refine Qbp.2 ⟨QcG (QcC _ ((Kx k L).trans Qby)) h.keys, by simp, fun a K b R => ?_⟩;obtain rfl : b = k := by grind
  obtain ⟨x, d, rfl⟩ := Qbc.1 K;exact (c x d).2
 have m : lz k e r l L ∈ mh k e r l L := by rw [i]; simp
 refine ⟨f, ?_, fun x d g => ?_, fun y M => ?_⟩;rw [i, Qae, Qav, Qcm];have := Ky (k := k) h.len; omega;rw [w];rw [i] at d;rcases QaZ.1 d with d | d;obtain ⟨z, A, rfl⟩ := Qbc.1 d;obtain ⟨B, _⟩ := c z A;rw [Ku];by_cases q : z.e.1 = r ∨ z.e.1 = l;rw [dX, Qad q] at g;rw [show z.nar.e.2.2 = iA z.e.2.2 from rfl, Bc] at g; cases g;rw [dX, Qab q] at g;have S := h.nowr z B g;rw [QcS];refine ⟨?_, ?_⟩;grind [uN];rw [← Qat, tz];rintro (G | G);grind;grind;grind [lz, Ln.nar, iA, Bc];obtain ⟨C, n⟩ := QaC.1 M;rcases KA C with ⟨q, N⟩ | rfl;obtain ⟨z, A, T, O⟩ := a1g q;obtain ⟨x, d, G, t⟩ := h.sub z A
 cases H : l5 y.key (mh k e r l L) with
 | none => rw [H] at n; cases n
 | some P =>
  obtain ⟨j, I⟩ := wu H;refine ⟨P, j, I, ?_⟩;rw [i] at j;rcases QaZ.1 j with j | j;obtain ⟨u, Q, rfl⟩ := Qbc.1 j;obtain ⟨o, _⟩ := c u Q;rw [Ks] at I;have D : u = x := Kz h.keys o d (by grind);subst D;have E : z.ep = u.e.1 := by rw [t]; rfl
  rw [O, E];by_cases v : u.e.1 = r ∨ u.e.1 = l;rw [dX, Qad v];by_cases s : u.e.1 ∈ mg L r l;rw [Qad s, ← t]; rfl;rw [Qab s];have J : hQ L u.e.1 = true := by
   rw [← Bool.not_eq_false]; intro F;exact s (Kp.2 ⟨v, F⟩)
  have g : wB u.e.2.2 = false := by
   rw [← Qat]; intro F;rw [h.nowr u o F] at J; cases J
  rw [Ko g, t];rw [dX, Qab v, Qab (fun s => v (Kp.1 s).1), t];grind [lz, Be]
 exact ⟨_, m, Be k e r l L, rfl⟩
def bQ (b : Nat) (L : List Ln) : HP := chk (fun C => ∃ a c, C = [pt b (ag [.slice a L.length c, .bool true] 442), osl 389 7 (.slice a L.length c) (L.flatMap cT)])
section
variable {P : Program} {W0 : World} {R A : List HP} {b : Nat} {L : List Ln} {f : FuncId} {args : List Value} {Post : Value → List HP → Prop}
theorem s0 {a c n R1 R2 B} [d : Tk pt b A (ag [.slice a n c, .bool true] 442) R1] [e : Tk (osl 389 7) (.slice a n c) R1 (L.flatMap cT) R2] (f : n = L.length) [k : Ent R2 B] : Ent A (bQ b L :: B) := by
 subst f;exact (Ent.ofPerm (d.perm.trans (e.perm.cons _))).trans ((Ent.cons (Ent.cons k)).trans (g5 (R := B) (C := [_, _]) ⟨a, c, rfl⟩))
theorem yx {N K e} [hk : Tk bQ b A L R] (h : ∀ a c, ax W0 N K e (pt b (ag [.slice a L.length c, .bool true] 442) :: osl 389 7 (.slice a L.length c) (L.flatMap cT) :: R)) : ax W0 N K e A :=
  gk (r := bQ) (b := b) (nu fun C d => by obtain ⟨a, c, rfl⟩ := d; exact h a c)
theorem a1h {N K e} [hk : Tk bQ b A L R] (j : L ≠ []) (h : ∀ g c d, L.length ≤ c → c ≤ maxLen → (L.flatMap cT ++ d).length = c * 7 → ax W0 N K e (pt b (ag [.slice (some ⟨g, 0, none⟩) L.length c, .bool true] 442) :: pt g (ag (L.flatMap cT ++ d) 389) :: R)) : ax W0 N K e A :=
  yx (b := b) fun a c => pF (List.Perm.swap _ _ _) (kt (fun i f => by
      have := cQ nN L;rw [f] at this
      exact absurd (QaE (by grind)) j)
    (fun g n k d i f l o m => by
      cases i
      exact pF (List.Perm.swap _ _ _) (h g _ d f l m)))
theorem KB {g c n xs sp R1 R2 B} [a : Tk pt b A (ag [.slice (some ⟨g, 0, none⟩) n c, .bool true] 442) R1] [l : Tk pt g R1 (ag (xs ++ sp) 389) R2] (d : xs = L.flatMap cT) (f : n = L.length) (h : n ≤ c) (i : c ≤ maxLen) (j : (xs ++ sp).length = c * 7) [k : Ent R2 B] : Ent A (bQ b L :: B) := by
 subst f;subst d;have e : Ent R1 (osl 389 7 (.slice (some ⟨g, 0, none⟩) L.length c) (L.flatMap cT) :: B) := fC h i (cQ nN L) j;exact (Ent.ofPerm a.perm).trans ((Ent.cons e).trans (g5 (R := B) (C := [_, _]) ⟨_, c, rfl⟩))
theorem a1i [hk : Tk bQ b A L R] : kg (aT W0 A) b 1 (.bool true) := fun w (e : Own W0 w A) => by
 obtain ⟨C, ⟨a, c, rfl⟩, d⟩ := (e.tk (r := bQ) (b := b)).chk;have f : kg (aT W0 (pt b (ag [.slice a L.length c, .bool true] 442) :: (osl 389 7 (.slice a L.length c) (L.flatMap cT) :: R))) b 1 (.bool true) := aJ rfl;exact f w d
end
theorem ww b L : sQ W0 276 [pQ b] (bQ b L :: R) (.bool false) (bQ b L :: R) := by
 refine am func276 ntmps276 ?_;refine dj rfl rfl rfl (fun a => ?_) fun a => ?_;cases a;refine aw ?_;refine aa (aF a1i) ?_;exact ae ap
def uP (p : Int) : Bool := decide (0 ≤ p ∧ p < 8)
theorem KC p : sQ W0 405 [iQ p] R (.bool (uP p)) R := by
 refine am func405 ntmps405 ?_;refine ci (fun a => ?_) fun a => ?_;refine ae ?_;refine aI ?_;refine Qak Value.bool ?_;rw [Qag, uP, Qaj]
 first
   | (rw [Qaj]; constructor <;> (intro q; omega))
   | (constructor
      · intro q; first | omega | (cases q)
      intro q; omega)
 refine ae ?_;refine aI ?_;refine Qak Value.bool ?_;rw [Qag, uP, Qaj]
 first
   | (rw [Qaj]; constructor <;> (intro q; omega))
   | (constructor
      · intro q; first | omega | (cases q)
      intro q; omega)
theorem Bf g o x (b : bF (aT W0 R) g o (cT x)) p : sQ W0 279 [.pointer (some ⟨g, o, none⟩), iQ p] R (.bool (x.thr p)) R := by
 refine am func279 ntmps279 ?_;refine aa (aF (bF.weak b 5 _ rfl)) ?_;refine cv (fun a => ?_) fun a => ?_;refine ae ?_;refine aI ?_;refine Qak Value.bool ?_;rw [Qag, tz]
 first
   | (simp; omega)
   | (simp only [Qba, true_iff]; omega)
   | simp_all
 refine aa (aF (bF.weak b 6 _ rfl)) ?_;refine ae ?_;refine aI ?_;refine Qak Value.bool ?_;rw [Qag, tz]
 first
   | (simp; omega)
   | (simp only [Qba, true_iff]; omega)
   | simp_all
theorem ES g o vs r (hr : i64 r) (hv : vs[o + 4]? = some (iQ r)) : sQ W0 433 [.pointer (some ⟨g, o, none⟩)] (pt g (ag vs 389) :: R) (.tuple #[]) (pt g (ag (vs.set (o + 4) (iQ (iA r))) 389) :: R) := by
 refine am func433 ntmps433 ?_;refine aa (aF (aJ hv)) ?_;refine aa (zM rfl rfl (Kk hr : rz .i64 r 2 = iA r)) ?_;refine av (du (by grind) (rfl : vs.set (o + 4) (iQ (if wB r then r - 2 else r)) = vs.set (o + 4) (iQ (iA r)))) ?_;refine bK (.inr rfl) .nil ?_;rw [show iA r = if wB r then r - 2 else r from rfl];exact ap
theorem a1j b L (z : L.length ≤ 1000) p : sQ W0 432 [pQ b, iQ p] (bQ b L :: R) (.bool (hQ L p)) (bQ b L :: R) := by
 refine am func432 ntmps432 ?_;refine ah (ao wX (ww b L)) ?_;refine yx (b := b) fun a c => ?_;refine aw ?_;refine d7 (fun i : Nat => i ≤ L.length ∧ ∀ j (f : j < L.length), j < i → L[j].thr p = false) (fun i => [(0, pQ b), (1, iQ p), (12, iQ (L.length : Nat)), (13, iQ i)]) (fun _ => pt b (ag [.slice a L.length c, .bool true] 442) :: osl 389 7 (.slice a L.length c) (L.flatMap cT) :: R) (fun i => L.length - i) 0 ?_ ?_;grind;intro i ⟨A, r⟩;refine aw ?_;refine aD rfl (fun s => ?_) fun s => ?_;refine au 11 ?_;have d : i < L.length := by omega
 refine mH (E := 389) (sz := 7) (a := a) (c := c) (n := L.length) cT L nN (by decide) rfl (fun t => ?_);obtain ⟨g, o, k, l⟩ := t.at_ d;obtain ⟨x, h⟩ : ∃ x, L[i] = x := ⟨_, rfl⟩
 have e : x.thr p = true → hQ L p = true := fun q => uN.2 ⟨x, by rw [← h]; exact QaF d, q⟩;have u : x.thr p = false → ∀ j (f : j < L.length), j < i + 1 → L[j].thr p = false := fun q j f v => by
  rcases QaD j i with w | w;grind;grind
 rw [h] at l;refine aw ?_;refine aa (eR nk ru rfl k rfl rfl d (by first | exact Qac _ | rfl)) ?_;refine ah (aC GG (Bf g (o + i * 7) x l p)) ?_;refine ai (fun m => ?_) fun m => ?_;refine ae ?_;rw [e m];exact ⟨_, ⟨rfl, rfl⟩, s0 (b := b) rfl⟩;refine aa co ?_;refine bM (i + 1) ?_;grind;refine aw ?_;refine ae ?_;have y : hQ L p = false := by
  rw [← Qat, uN];rintro ⟨x, h, q⟩;obtain ⟨j, f, rfl⟩ := QbM h;rw [r j f (by omega)] at q; cases q
 rw [y];exact ⟨_, ⟨rfl, rfl⟩, s0 (b := b) rfl⟩
theorem uQ {S b off us ws vs} (h : bF S b off vs) (e : vs = us ++ ws) : bF S b off us := fun i v a => h i v (by grind)
structure PLn (W0 : World) (fn : FuncId) (cs : List Value) (C : HP) (p : Ln → Bool) : Prop where
  call : ∀ args w, (callFunc fn args).run Tryz.prog w = .ok (.enter fn args) w
  spec : ∀ x b R, bH Tryz.prog W0 fn ([] ++ [.pointer (some ⟨b, 0, none⟩)] ++ cs) (pt b (ag (cT x) 389) :: kH 0 C :: R) (fun v B => v = .bool (p x) ∧ B = pt b (ag (cT x) 389) :: kH 0 C :: R)
theorem a1k W0 bk (k : dA) : PLn W0 407 [pQ bk] (cu [pt bk (ag (iz k) 380)]) (fun x => decide (x.k = k)) := ⟨call407, fun x b R => by
 refine nv (ue (r1 := kH) (b1 := 0)) (pI ?_);simp only [Qay, Qax];refine am func407 ntmps407 ?_;refine bc [b, bk] 8 fun a => ?_;refine aj 0 4 a ?_;refine az 4 a (dt (uQ (us := iz x.k) (ws := [iQ x.e.1, iQ x.e.2.1, iQ x.e.2.2, iQ x.rt, iQ x.lf]) (j9 (k := 0) rfl) rfl)) ?_;refine aj 5 1 a ?_;refine az 6 a (vx Tryz.eqGuardType380 rfl rfl (u7 Ch Tryz.stoodInHeld380 (lJ rfl db rfl rfl (lI jL) (lJ rfl db rfl rfl (lI jL) u6)))) ?_;refine aj 7 1 a ?_;refine aK ?_;refine ae ?_;refine aI ?_;refine Qak Value.bool ?_;rw [Qag]; simp [Prod.ext_iff]
 ⟩
theorem a1l W0 bp page : PLn W0 332 [pQ bp] (cu [pt bp (ag [iQ page] 3)]) (fun x => x.thr page) := ⟨call332, fun x b R => by
 refine nv (ue (r1 := kH) (b1 := 0)) (pI ?_);simp only [Qay, Qax];refine am func332 ntmps332 ?_;refine ah (aC GG (Bf b 0 x eK page)) ?_;exact ae ap
 ⟩
def ng (page : Int) (x : Ln) : Bool := x.thr page || decide (x.e.1 = page)
theorem a1m W0 bp page : PLn W0 278 [pQ bp] (cu [pt bp (ag [iQ page] 3)]) (ng page) := ⟨call278, fun x b R => by
 refine nv (ue (r1 := kH) (b1 := 0)) (pI ?_);simp only [Qay, Qax];obtain ⟨q, hq⟩ : ∃ q, x.thr page = q := ⟨_, rfl⟩
 rw [show ng page x = (q || decide (x.e.1 = page)) by rw [ng, hq]];refine am func278 ntmps278 ?_;refine bc [b, bp] 14 fun a => ?_;refine aj 0 2 a ?_;refine bX 2 (aC GG (Bf b 0 x eK page)) ?_; clear a;rintro _ d ⟨rfl, hB_⟩;obtain rfl := hB_.symm;rw [hq];refine ⟨aV, fun a => ?_⟩;refine aj 3 1 a ?_;refine ja (t := 7) rfl ?_ ?_;intro c;refine aj 4 10 a ?_;refine aK ?_;refine ae ?_;refine aI ?_;refine Qak Value.bool ?_;rw [Qag];simp_all;intro c;refine aj 4 10 a ?_;refine aK ?_;refine ae ?_;refine aI ?_;refine Qak Value.bool ?_;rw [Qag];simp_all
 ⟩
theorem a1n W0 : PLn W0 399 [] (cu []) (fun _ => true) := ⟨call399, fun x b R => by
 refine am func399 ntmps399 ?_;exact ae ap
 ⟩
theorem KD {α : Type} {p} {l : List α} {i x} hi (a : l[i] = x) (h : p x = true) : (l.take (i + 1)).filter p = (l.take i).filter p ++ [x] := by
 grind [Qap]
theorem KE {α : Type} {p} {l : List α} {i x} hi (a : l[i] = x) (h : ¬ p x = true) : (l.take (i + 1)).filter p = (l.take i).filter p := by
 grind [Qap]
theorem KF {α : Type} {p} {l : List α} {i} : ((l.take i).filter p).length ≤ i :=
  QaN (QaM _ _) (by grind)
@[reducible] def uR (x : Ln) : List Value := iz x.k
theorem Bg b L (hl : L.length ≤ 1000) fn cs C p (hp : PLn W0 fn cs C p) : sP W0 277 [pQ b, .func (.func fn) #[] cs.toArray] (bQ b L :: kH 0 C :: R) (fun v B => ∃ a c, v = .slice a (L.filter p).length c ∧ B = osl 380 2 (.slice a (L.filter p).length c) ((L.filter p).flatMap uR) :: bQ b (L.filter fun x => !p x) :: kH 0 C :: R) := by
 obtain ⟨n, hn⟩ : ∃ n : Ln → Bool, (fun x => !p x) = n := ⟨_, rfl⟩
 have hnx : ∀ x, n x = !p x := fun x => by rw [← hn]
 rw [hn];refine am func277 ntmps277 ?_;refine yx (b := b) fun a c => ?_;refine aw ?_;refine gU (fun X : Nat × (Option Addr × Nat) × Option Addr × Nat => X.1 ≤ L.length) (fun X => [(0, pQ b), (1, .func (.func fn) #[] cs.toArray), (5, .slice X.2.1.1 ((L.take X.1).filter p).length X.2.1.2), (6, .slice X.2.2.1 ((L.take X.1).filter n).length X.2.2.2), (13, iQ (L.length : Nat)), (14, iQ X.1)]) (fun X => osl 380 2 (.slice X.2.1.1 ((L.take X.1).filter p).length X.2.1.2) (((L.take X.1).filter p).flatMap uR) :: osl 389 7 (.slice X.2.2.1 ((L.take X.1).filter n).length X.2.2.2) (((L.take X.1).filter n).flatMap cT) :: pt b (ag [.slice a L.length c, .bool true] 442) :: osl 389 7 (.slice a L.length c) (L.flatMap cT) :: kH 0 C :: R) (fun X => L.length - X.1) (0, (none, 0), none, 0) ?_ ?_ ?_ ?_;omega
 · repeat (first | exact bC | refine bq rfl ?_)
 show Ent _ (osl 380 2 (.slice none 0 0) [] :: osl 389 7 (.slice none 0 0) [] :: pt b (ag [.slice a L.length c, .bool true] 442) :: osl 389 7 (.slice a L.length c) (L.flatMap cT) :: kH 0 C :: R);exact fQ (k := fQ);intro ⟨i, ⟨a1, c1⟩, a2, c2⟩ hi;dsimp only at hi ⊢;have hlp := KF (p := p) (l := L) (i := i);have hln := KF (p := n) (l := L) (i := i);refine aw ?_;refine aD rfl (fun c4 => ?_) fun c4 => ?_;refine au 2 ?_;refine dw (fun X : (Option Addr × Nat) × Option Addr × Nat => True) (fun X => [(0, pQ b), (1, .func (.func fn) #[] cs.toArray), (5, .slice X.1.1 ((L.take (i + 1)).filter p).length X.1.2), (6, .slice X.2.1 ((L.take (i + 1)).filter n).length X.2.2), (13, iQ (L.length : Nat)), (14, iQ i)]) (fun X => osl 380 2 (.slice X.1.1 ((L.take (i + 1)).filter p).length X.1.2) (((L.take (i + 1)).filter p).flatMap uR) :: osl 389 7 (.slice X.2.1 ((L.take (i + 1)).filter n).length X.2.2) (((L.take (i + 1)).filter n).flatMap cT) :: pt b (ag [.slice a L.length c, .bool true] 442) :: osl 389 7 (.slice a L.length c) (L.flatMap cT) :: kH 0 C :: R) ?_ ?_;refine au 8 ?_;have hi1 : i < L.length := by omega
 refine mH (E := 389) (sz := 7) (a := a) (c := c) (n := L.length) cT L nN (by decide) rfl (fun hs => ?_);obtain ⟨g, o, hga, hc⟩ := hs.at_ hi1;obtain ⟨x, hx⟩ : ∃ x, L[i] = x := ⟨_, rfl⟩
 rw [hx] at hc;refine aw ?_;refine aa (eR nk ru rfl hga rfl rfl hi1 (by first | exact Qac _ | rfl)) ?_;refine aa (dt hc.weak) ?_;refine bi fun bx => ?_;refine av aB ?_;refine ah (OV (us := []) (cs := cs) rfl hp.call rfl (hp.spec x bx _)) ?_;refine ai (fun c7 => ?_) fun c7 => ?_;have e1 := KD (p := p) hi1 hx c7;have e2 := KE (p := n) hi1 hx (by grind);refine aa (sH G4 so rfl TakeL.eq rfl) ?_;refine dK (j0 Gf so a7V rfl (fR rfl rfl iG) rfl (by decide) (by decide) (by decide)) fun bb => ?_;rw [show ([iz x.k] : List (List Value)).flatten = iz x.k from Qaw _];refine aG rfl (eW (sz := 2) (by_ := 16) (info := Tryz.t380) Gf (by kernel_rfl) rfl rfl rfl rfl (by decide) rfl rfl eK rfl rfl (by simp only [maxLen]; omega) (by omega)) ?_;rintro _ _ ⟨a3, c3, rfl, rfl⟩;refine aw ?_;refine dD ((a3, c3), a2, c2) ?_ ?_ ?_;trivial
 · rw [e1, e2, Qae]
   repeat (first | exact bC | refine bq rfl ?_)
 dsimp only;rw [e1, e2, Qae, Qcm, QbN, List.flatMap_singleton];exact IO;have e1 := KE (p := p) hi1 hx c7;have e2 := KD (p := n) hi1 hx (by grind);refine dK (j0 nk ru Cl rfl (fR rfl rfl iG) rfl (by decide) (by decide) (by decide)) fun bb => ?_;rw [show ([cT x] : List (List Value)).flatten = cT x from Qaw _];refine aG rfl (eW (sz := 7) (by_ := 56) (info := Tryz.t389) nk (by kernel_rfl) rfl rfl rfl rfl (by decide) rfl rfl eK rfl (by grind [Kn]) (by simp only [maxLen]; omega) (by omega)) ?_;rintro _ _ ⟨a3, c3, rfl, rfl⟩;refine aw ?_;refine dD ((a1, c1), a3, c3) ?_ ?_ ?_;trivial
 · rw [e1, e2, Qae]
   repeat (first | exact bC | refine bq rfl ?_)
 dsimp only;rw [e1, e2, Qae, Qcm, QbN, List.flatMap_singleton];exact IO;intro ⟨⟨a4, c4⟩, a5, c5⟩ _;refine aw ?_;refine aa co ?_;exact bM (i + 1, (a4, c4), a5, c5) (by omega);refine aw ?_;refine av eg ?_;refine ae ?_;obtain rfl : i = L.length := by omega
 rw [QbH];exact ⟨_, ⟨a1, c1, rfl, rfl⟩, Ent.trans (B := osl 380 2 (.slice a1 (L.filter p).length c1) ((L.filter p).flatMap uR) :: pt b (ag [.slice a2 (L.filter n).length c2, .bool true] 442) :: osl 389 7 (.slice a2 (L.filter n).length c2) ((L.filter n).flatMap cT) :: kH 0 C :: R) inferInstance (Ent.cons (s0 (b := b) rfl))⟩
theorem a1o a n c : sP W0 435 [.slice a n c] R (fun v B => ∃ b, v = .func (.func 444) #[] #[pQ b] ∧ B = pt b (ag [.slice a n c] 435) :: R) := by
 refine am func435 ntmps435 ?_;refine dK (jQ rfl rfl) fun d => ?_;refine ae ?_;exact ⟨_, ⟨d, rfl, rfl⟩, IO⟩
theorem a1p W0 bs L c a (its : List It) (m : its.length < 1000) (C : Nat → List HP) (h : ∀ i R, i < its.length → qx Tryz.prog W0 L [.agg (bT (its.getD i default)).toArray] (C i ++ R) (fun v B => v = .bool true ∧ B = C (i + 1) ++ R)) : sQ W0 444 [.func (.yield L) #[] #[], pQ bs] (pt bs (ag [.slice a its.length c] 435) :: osl 446 6 (.slice a its.length c) (its.flatMap bT) :: C 0) (.tuple #[]) (pt bs (ag [.slice a its.length c] 435) :: osl 446 6 (.slice a its.length c) (its.flatMap bT) :: C its.length) := by
 refine am func444 ntmps444 ?_;refine d7 (fun i : Nat => i ≤ its.length) (fun i => [(0, .func (.yield L) #[] #[]), (5, .slice a its.length c), (6, iQ (its.length : Nat)), (7, iQ i)]) (fun i => pt bs (ag [.slice a its.length c] 435) :: osl 446 6 (.slice a its.length c) (its.flatMap bT) :: C i) (fun i => its.length - i) 0 ?_ ?_;omega;intro i p;refine aw ?_;refine ai (fun j => ?_) fun j => ?_;have b : i < its.length := by omega
 refine mH (E := 446) (sz := 6) (a := a) (n := its.length) (c := c) bT its iW (by decide) rfl (fun k => ?_);obtain ⟨g, o, rfl, l⟩ := k.at_ b;have d : its.getD i default = its[i] := by grind
 refine aw ?_;refine aa (bI b) ?_;refine aa (dt l) ?_;refine bi fun q => ?_;refine eU (fM e9 rfl rfl rfl rfl rfl) ?_;rintro _ _ rfl;refine aP (aH (aQ (aY (ac rfl (aM rfl) (ac rfl (ql lX e9 rfl rfl) ?_)))));refine D9 rfl rfl rfl (Dd (QaY (l₁ := [_, _, _])) (d ▸ h i [_, _, _] b)) ?_;rintro _ r ⟨rfl, e⟩;obtain rfl := e.symm;refine pF QaY ?_;simp only [Qay, Qax];refine aw ?_;refine ai (fun f => ?_) fun f => ?_;exact absurd rfl f;refine aa co ?_;exact bM (i + 1) (by omega);refine bK (.inr rfl) .nil ?_;obtain rfl : i = its.length := by omega
 exact ap
theorem a1q {W0 A e n' L D bs c a ps asg body} {f b : List HP → Prop} (its : List It) (h : its.length < 1000) (C : Nat → List HP)
    (j : A.Perm (pt bs (ag [.slice a its.length c] 435) :: osl 446 6 (.slice a its.length c) (its.flatMap bT) :: C 0))
    (d : f (pt bs (ag [.slice a its.length c] 435) :: osl 446 6 (.slice a its.length c) (its.flatMap bT) :: C its.length))
    (k : ∀ i R, i < its.length → qx Tryz.prog W0 L [.agg (bT (its.getD i default)).toArray] (dT L ⟨e, n', ps, asg, body, .ready, none, D⟩ :: pt D (.deferred (some [])) :: (C i ++ R))
      (fun v B => v = .bool true ∧ B = dT L ⟨e, n', ps, asg, body, .ready, none, D⟩ :: pt D (.deferred (some [])) :: (C (i + 1) ++ R))) :
    bH Tryz.prog W0 444 (.func (.yield L) #[] #[] :: [pQ bs]) (dT L ⟨e, n', ps, asg, body, .ready, none, D⟩ :: pt D (.deferred (some [])) :: A)
      (fun _ B => (∃ C, B = dT L ⟨e, n', ps, asg, body, .ready, none, D⟩ :: pt D (.deferred (some [])) :: C ∧ f C) ∨ (∃ C, B = dT L ⟨e, n', ps, asg, body, .done, some .ret, D⟩ :: pt D (.deferred (some [])) :: C ∧ b C)) := by
 have g : ∀ (x y p q : HP) (Z : List HP), (x :: y :: p :: q :: Z).Perm (p :: q :: x :: y :: Z) := fun x y p q Z =>
  (((List.Perm.swap _ _ _).trans ((List.Perm.swap _ _ _).cons _)).cons _).trans ((List.Perm.swap _ _ _).trans ((List.Perm.swap _ _ _).cons _))
 refine nv (((j.cons _).cons _).trans (g _ _ _ _ _)) (iH (a1p W0 bs L c a its h (fun i => dT L ⟨e, n', ps, asg, body, .ready, none, D⟩ :: pt D (.deferred (some [])) :: C i) (fun i R l => k i R l)) ?_);rintro v B ⟨_, rfl⟩;exact ⟨_, .inl ⟨_, rfl, d⟩, Ent.ofPerm (g _ _ _ _ _)⟩
def uS (b : Nat) (l : List It) : HP := chk (fun C => ∃ a c, C = [pt b (ag [.slice a l.length c] 435), osl 446 6 (.slice a l.length c) (l.flatMap bT)])
section
variable {W0 : World} {N : FSz} {K : Act → World → Prop} {e : b0} {A R R1 R2 : List HP} {b n c : Nat} {l : List It} {a : Option Addr} {ys : List Value}
theorem KG [hk : Tk uS b A l R] (h : ∀ a c, ax W0 N K e (pt b (ag [.slice a l.length c] 435) :: osl 446 6 (.slice a l.length c) (l.flatMap bT) :: R)) : ax W0 N K e A :=
  gk (r := uS) (b := b) (nu fun C d => by obtain ⟨a, c, rfl⟩ := d; exact h a c)
theorem a1r l [d : Tk pt b A (ag [.slice a n c] 435) R1] [f : Tk (osl 446 6) (.slice a n c) R1 ys R] (g : n = l.length) (h : ys = l.flatMap bT) (k : ax W0 N K e (uS b l :: R)) : ax W0 N K e A := by
 subst g; subst h;exact dr ((Ent.ofPerm (d.perm.trans (f.perm.cons _))).trans (g5 (R := R) (C := [_, _]) ⟨a, c, rfl⟩)) k
theorem a1s [a : Tk pt b A (ag [.slice none 0 0] 435) R] (k : ax W0 N K e (uS b [] :: R)) : ax W0 N K e A :=
  dr ((Ent.ofPerm a.perm).trans ((Ent.cons (fQ (E := 446) (sz := 6) (B := R))).trans (g5 (R := R) (C := [pt b (ag [.slice none 0 0] 435), osl 446 6 (.slice none 0 0) []]) ⟨none, 0, rfl⟩))) k
end
theorem a1t bs c a (its : List It) (m : its.length < 900) : sP W0 448 [.slice none 0 0, .func (.func 444) #[] #[pQ bs]] (pt bs (ag [.slice a its.length c] 435) :: osl 446 6 (.slice a its.length c) (its.flatMap bT) :: R) (fun v B => ∃ e f, v = .slice e its.length f ∧ B = osl 446 6 (.slice e its.length f) (its.flatMap bT) :: osl 446 6 (.slice a its.length c) (its.flatMap bT) :: R) := by
 refine am func448 ntmps448 ?_;refine fi (jQ rfl rfl) fun d => ?_;refine au 5 ?_;refine a1s (b := d) ?_;refine au 5 ?_;refine Da (fun C => C = pt bs (ag [.slice a its.length c] 435) :: osl 446 6 (.slice a its.length c) (its.flatMap bT) :: uS d its :: R) (fun C => False) rfl call444 ?_ ?_ ?_;intro L D;refine a1q its (by omega) (fun i => uS d (its.take i) :: R) (by rw [List.take_zero]; exact sV (r1 := pt) (b1 := bs) (r2 := osl 446 6) (b2 := .slice a its.length c) (r3 := uS) (b3 := d)) (by grind) ?_;intro i n o;simp only [Qay, Qax];have j : its.take (i + 1) = its.take i ++ [its.getD i default] := by simp_all
 have k : (its.take i).length = i := by grind
 refine zZ rfl rfl ?_;refine aY (aG rfl (dQ sy) ?_);rintro _ _ ⟨p, rfl, rfl⟩;refine jb 1 aB ?_;refine zX rfl ?_;refine au 1 ?_;refine KG (b := d) fun g h => ?_;refine aY (ac rfl (cg N6 rfl (aJ rfl)) ?_);refine ac rfl (ql lX e9 rfl rfl) ?_;refine aG rfl (j0 iD e9 sy rfl (fR rfl rfl iG) rfl (by decide) (by decide) (by decide)) ?_;rintro _ _ ⟨q, rfl, rfl⟩;refine aG rfl (eW (sz := 6) (by_ := 48) (info := Tryz.t446) iD (by kernel_rfl) rfl rfl rfl rfl (by decide) rfl rfl eK rfl rfl (by simp only [maxLen]; omega) (by omega)) ?_;rintro _ _ ⟨r, s, rfl, rfl⟩;refine jb 2 eg ?_;refine a1r (b := d) (its.take (i + 1)) (by grind) (by grind) ?_;refine zY ?_;exact ap;intro D C l;subst l;refine au 3 ?_;refine KG (b := d) fun g h => ?_;refine aY (ac rfl (cg N6 rfl (aJ rfl)) ?_);refine ac rfl (bj rfl) (aP (aH (dv (vB (.inl rfl) (.cons (aN rfl) .nil) ?_))));exact ⟨_, ⟨g, h, rfl, rfl⟩, IO⟩;grind
theorem a1u bs c a (its : List It) (f : its.length < 900) : sP W0 442 [.func (.func 444) #[] #[pQ bs]] (pt bs (ag [.slice a its.length c] 435) :: osl 446 6 (.slice a its.length c) (its.flatMap bT) :: R) (fun v B => ∃ d e, v = .slice d its.length e ∧ B = osl 446 6 (.slice d its.length e) (its.flatMap bT) :: osl 446 6 (.slice a its.length c) (its.flatMap bT) :: R) := by
 refine am func442 ntmps442 ?_;refine aG rfl (cA call448 (a1t bs c a its f)) ?_;rintro _ i ⟨g, h, rfl, b⟩;obtain rfl := b.symm;refine aw ?_;refine ae ?_;exact ⟨_, ⟨g, h, rfl, rfl⟩, IO⟩
theorem KH x : sQ W0 445 [iQ x] R (.bool false) R := by
 refine am func445 ntmps445 ?_;refine ae ?_;refine aI ?_;simp [aO]
def pj (x y : Int) : Int := if x < y then -1 else if x > y then 1 else 0
theorem a1v x y : sQ W0 437 [iQ x, iQ y] R (iQ (pj x y)) R := by
 refine am func437 ntmps437 ?_;refine ah (aC call445 (KH x)) ?_;refine ah (aC call445 (KH y)) ?_;refine ai (fun a => ?_) fun a => ?_;refine ae ?_;refine aI ?_;rw [pj, Qad a] <;> rfl;refine ai (fun b => ?_) fun b => ?_;refine ae ?_;refine aI ?_;rw [pj, Qab a, Qad (by omega)] <;> rfl;refine ae ?_;refine aI ?_;rw [pj, Qab a, Qab (by omega)] <;> rfl
theorem KI x y : sQ W0 436 [.agg (bT x).toArray, .agg (bT y).toArray] R (iQ (pj x.u y.u)) R := by
 refine am func436 ntmps436 ?_;refine bA fun b => ?_;refine fi (kh rfl) fun c => ?_;refine ac rfl (bj rfl) (aP (aH (aQ (aY ?_))));refine ac rfl (cD rfl vk rfl aR rfl (by first | exact Qac _ | rfl)) ?_;refine ac rfl (cg db rfl (aJ rfl)) ?_;refine ac rfl (cD rfl vk rfl aR rfl (by first | exact Qac _ | rfl)) ?_;refine ac rfl (cg db rfl (aJ rfl)) ?_;refine aG rfl (iR call437 rfl (a1v x.u y.u)) ?_;rintro _ d ⟨rfl, a⟩;obtain rfl := a.symm;refine ac rfl (bj rfl) (aP (aH (dv ?_)));exact ae ap
def Bh (l : List It) (j i : Nat) : Prop := ∀ p q, p < q → q ≤ i → q ≠ j → us l p ≤ us l q
theorem Bi {l j i} (h : Bh l j i) (o : 0 < j) (k : j ≤ i) (r : i < l.length) (m : us l j < us l (j - 1)) : Bh (swapL l j (j - 1)) (j - 1) i := by
 have f := kW (l := l) (i := j) (j := j - 1) (by omega) (by omega);intro p q c d e;rw [f, f];have n : ¬ j - 1 = j := by omega
 by_cases a : q = j;subst a;rw [Qad (rfl : q = q)];by_cases b : p = q - 1;omega;rw [Qab (by omega), Qab b]; exact h p (q - 1) (by omega) (by omega) (by omega);rw [Qab a, Qab e];by_cases b : p = j;rw [Qad b]; exact h (j - 1) q (by omega) d a;rw [Qab b];by_cases g : p = j - 1;rw [Qad g]; exact h j q (by omega) d a;rw [Qab g]; exact h p q c d a
theorem ET {l j i} (h : Bh l j i) (b : j = 0 ∨ us l (j - 1) ≤ us l j) : ∀ p q, p < q → q ≤ i → us l p ≤ us l q := fun p q a c => by
 by_cases e : q = j;subst e;rcases b with d | f;omega;by_cases g : p = q - 1;grind;have := h p (q - 1) (by omega) (by omega) (by omega); omega;exact h p q a c e
theorem a1w g c its sp (D : its.length < 900) (E : 0 < its.length) : sP W0 452 [.slice (some ⟨g, 0, none⟩) its.length c, .int .i64 0, .int .i64 its.length, .func (.func 436) #[] #[]] (pt g (ag (its.flatMap bT ++ sp) 446) :: R) (fun v B => ∃ l, v = .tuple #[] ∧ B = pt g (ag (l.flatMap bT ++ sp) 446) :: R ∧ l.Perm its ∧ ∀ p q, p < q → q < its.length → us l p ≤ us l q) := by
 refine jq 3 func452 ntmps452 ?_;refine iS 4 (cY rfl rfl (bS (by omega))) ?_;refine d7 (fun X : List It × Nat => X.1.Perm its ∧ 0 < X.2 ∧ X.2 ≤ its.length ∧ ∀ p q, p < q → q < X.2 → us X.1 p ≤ us X.1 q) (fun X => [(0, .slice (some ⟨g, 0, none⟩) its.length c), (1, .int .i64 0), (2, .int .i64 (its.length : Nat)), (3, .func (.func 436) #[] #[]), (8, .int .i64 X.2)]) (fun X => pt g (ag (X.1.flatMap bT ++ sp) 446) :: R) (fun X => its.length - X.2) (its, 1) ?_ ?_;grind;intro ⟨l, i⟩ ⟨u, w, y, b⟩;dsimp only at u w y b ⊢;refine au 8 ?_;refine aD rfl (fun z => ?_) fun z => ?_;refine au 11 ?_;refine d7 (fun X : List It × Nat => X.1.Perm its ∧ X.2 ≤ i ∧ Bh X.1 X.2 i) (fun X => [(0, .slice (some ⟨g, 0, none⟩) its.length c), (1, .int .i64 0), (2, .int .i64 (its.length : Nat)), (3, .func (.func 436) #[] #[]), (8, .int .i64 i), (9, .int .i64 X.2)]) (fun X => pt g (ag (X.1.flatMap bT ++ sp) 446) :: R) (fun X => X.2) (l, i) ?_ ?_;exact ⟨u, Qao _, fun p q o r F => b p q o (by omega)⟩;intro ⟨a, j⟩ ⟨f, s, h⟩;dsimp only at f s h ⊢;have A := f.length_eq;refine au 2 ?_;refine eV [(g, 0, _)] 17 mixed rfl (bL bE) (fun b => ?_);refine aj 0 4 b ?_;refine ja (t := 21) rfl ?_ ?_;intro x;have n : 0 < j := by omega
 have d : j < a.length := by omega
 have C : (j : Int) - 1 = ((j - 1 : Nat) : Int) := by omega
 refine aj 4 3 b ?_;refine bu 7 rfl rfl rfl b (iF iD e9 rfl rfl rfl (by omega) (by first | exact Qac _ | rfl)) ?_;refine aj 9 2 b ?_;refine bu 11 rfl rfl rfl b (jo rfl rfl (by rw [bS (by omega)]; omega : IntKind.wrap .i64 ((j : Int) - 1) = ((j - 1 : Nat) : Int))) ?_;refine bu 12 rfl rfl rfl b (iF iD e9 rfl rfl rfl (by omega) (by first | exact Qac _ | rfl)) ?_;refine fP (is := [8, 13]) (by kernel_rfl) rfl ⟨?_, ?_, trivial⟩;skip;refine mD rfl rfl (dP (gK lX e9 rfl (cJ (jX a sp j d) rfl) rfl)) rfl ?_; clear b;rintro _ _ ⟨rfl, rfl⟩;refine ⟨(bL bE), fun b => ?_⟩;refine gB 13 rfl rfl (dP (gK lX e9 rfl (cJ (jX a sp (j - 1) (by omega)) rfl) rfl)) (bL bE) fun b => ?_;refine gB 14 rfl rfl (jp rfl call436 rfl (KI (a.getD j default) (a.getD (j - 1) default))) (bL bE) fun b => ?_;refine aj 15 2 b ?_;refine gC ?_;refine aH ?_;refine aD rfl (fun e => ?_) fun e => ?_;refine au 4 ?_;refine eV [] 18 mixed rfl bE (fun b => ?_);refine aj 0 4 b ?_;refine bu 4 rfl rfl rfl b (jo rfl rfl (by rw [bS (by omega)]; omega : IntKind.wrap .i64 ((j : Int) - 1) = ((j - 1 : Nat) : Int))) ?_;refine aj 5 2 b ?_;refine bu 7 rfl rfl rfl b (jo rfl rfl (by rw [bS (by omega)]; omega : IntKind.wrap .i64 ((j : Int) - 1) = ((j - 1 : Nat) : Int))) ?_;refine bu 8 rfl rfl rfl b (iF iD e9 rfl rfl rfl (by omega) (by first | exact Qac _ | rfl)) ?_;refine aj 10 2 b ?_;refine bu 12 rfl rfl rfl b (iF iD e9 rfl rfl rfl (by omega) (by first | exact Qac _ | rfl)) ?_;refine fP (is := [9, 13]) (by kernel_rfl) rfl ⟨?_, ?_, trivial⟩;skip;refine mD rfl rfl (dP (gK lX e9 rfl (cJ (jX a sp (j - 1) (by omega)) rfl) rfl)) rfl ?_; clear b;rintro _ _ ⟨rfl, rfl⟩;refine ⟨bE, fun b => ?_⟩;refine gB 13 rfl rfl (dP (gK lX e9 rfl (cJ (jX a sp j d) rfl) rfl)) bE fun b => ?_;refine bu 14 rfl rfl rfl b (iF iD e9 rfl rfl rfl (by omega) (by first | exact Qac _ | rfl)) ?_;refine kv 15 rfl rfl (qn e9 rfl rfl rfl rfl (me a sp j d) (n0 a sp j (a.getD (j - 1) default) d)) bE fun b => ?_;refine bu 16 rfl rfl rfl b (iF iD e9 rfl rfl rfl (by omega) (by first | exact Qac _ | rfl)) ?_;refine kv 17 rfl rfl (qn e9 rfl rfl rfl rfl (me (a.set j (a.getD (j - 1) default)) sp (j - 1) (by rw [Qam]; omega)) (n0 (a.set j (a.getD (j - 1) default)) sp (j - 1) (a.getD j default) (by rw [Qam]; omega))) bE fun b => ?_;refine gC ?_;refine au 4 ?_;refine iS 3 (jo rfl rfl (by rw [bS (by omega)]; omega : IntKind.wrap .i64 ((j : Int) - 1) = ((j - 1 : Nat) : Int))) ?_;refine bM (swapL a j (j - 1), j - 1) ?_ (hμ := ?_) (he := ?_);have k : us a j < us a (j - 1) := by
  unfold us;unfold pj at e;split at e;assumption;split at e <;> omega
 exact ⟨(kF d (by omega)).trans f, by show j - 1 ≤ i; omega, Bi h n s (by omega) k⟩;show j - 1 < j; omega;show Ent _ (pt g (ag ((swapL a j (j - 1)).flatMap bT ++ sp) 446) :: R);unfold swapL;exact IO;skip;refine mD rfl rfl (dP (gK lX e9 rfl (cJ (jX a sp j d) rfl) rfl)) rfl ?_; clear b;rintro _ _ ⟨rfl, rfl⟩;refine ⟨bE, fun b => ?_⟩;refine gB 9 rfl rfl (dP (gK lX e9 rfl (cJ (jX a sp (j - 1) (by omega)) rfl) rfl)) bE fun b => ?_;refine bu 14 rfl rfl rfl b (iF iD e9 rfl rfl rfl (by omega) (by first | exact Qac _ | rfl)) ?_;refine kv 15 rfl rfl (qn e9 rfl rfl rfl rfl (me a sp j d) (n0 a sp j (a.getD (j - 1) default) d)) bE fun b => ?_;refine bu 16 rfl rfl rfl b (iF iD e9 rfl rfl rfl (by omega) (by first | exact Qac _ | rfl)) ?_;refine kv 17 rfl rfl (qn e9 rfl rfl rfl rfl (me (a.set j (a.getD (j - 1) default)) sp (j - 1) (by rw [Qam]; omega)) (n0 (a.set j (a.getD (j - 1) default)) sp (j - 1) (a.getD j default) (by rw [Qam]; omega))) bE fun b => ?_;refine gC ?_;refine au 4 ?_;refine iS 3 (jo rfl rfl (by rw [bS (by omega)]; omega : IntKind.wrap .i64 ((j : Int) - 1) = ((j - 1 : Nat) : Int))) ?_;refine bM (swapL a j (j - 1), j - 1) ?_ (hμ := ?_) (he := ?_);have k : us a j < us a (j - 1) := by
  unfold us;unfold pj at e;split at e;assumption;split at e <;> omega
 exact ⟨(kF d (by omega)).trans f, by show j - 1 ≤ i; omega, Bi h n s (by omega) k⟩;show j - 1 < j; omega;show Ent _ (pt g (ag ((swapL a j (j - 1)).flatMap bT ++ sp) 446) :: R);unfold swapL;exact IO;refine au 6 ?_
 have m : ∀ p q, p < q → q ≤ i → us a p ≤ us a q := ET h (by
   first
     | (left; omega)
     | (right
        unfold us;unfold pj at e;split at e
        · omega
        omega))
 refine au 2 ?_;refine iS 3 (cY rfl rfl (by rw [bS (by omega)]; omega : IntKind.wrap .i64 ((i : Int) + 1) = ((i + 1 : Nat) : Int))) ?_;refine bM (a, i + 1) ?_ (hμ := ?_);exact ⟨f, Nat.succ_pos _, by show i + 1 ≤ its.length; omega, fun p q o r => m p q o (by dsimp only at r; omega)⟩;show its.length - (i + 1) < its.length - i; omega;skip;refine mD rfl rfl (dP (gK lX e9 rfl (cJ (jX a sp (j - 1) (by omega)) rfl) rfl)) rfl ?_; clear b;rintro _ _ ⟨rfl, rfl⟩;refine ⟨(bL bE), fun b => ?_⟩;refine gB 8 rfl rfl (dP (gK lX e9 rfl (cJ (jX a sp j d) rfl) rfl)) (bL bE) fun b => ?_;refine gB 14 rfl rfl (jp rfl call436 rfl (KI (a.getD j default) (a.getD (j - 1) default))) (bL bE) fun b => ?_;refine aj 15 2 b ?_;refine gC ?_;refine aH ?_;refine aD rfl (fun e => ?_) fun e => ?_;refine au 4 ?_;refine eV [] 18 mixed rfl bE (fun b => ?_);refine aj 0 4 b ?_;refine bu 4 rfl rfl rfl b (jo rfl rfl (by rw [bS (by omega)]; omega : IntKind.wrap .i64 ((j : Int) - 1) = ((j - 1 : Nat) : Int))) ?_;refine aj 5 2 b ?_;refine bu 7 rfl rfl rfl b (jo rfl rfl (by rw [bS (by omega)]; omega : IntKind.wrap .i64 ((j : Int) - 1) = ((j - 1 : Nat) : Int))) ?_;refine bu 8 rfl rfl rfl b (iF iD e9 rfl rfl rfl (by omega) (by first | exact Qac _ | rfl)) ?_;refine aj 10 2 b ?_;refine bu 12 rfl rfl rfl b (iF iD e9 rfl rfl rfl (by omega) (by first | exact Qac _ | rfl)) ?_;refine fP (is := [9, 13]) (by kernel_rfl) rfl ⟨?_, ?_, trivial⟩;skip;refine mD rfl rfl (dP (gK lX e9 rfl (cJ (jX a sp (j - 1) (by omega)) rfl) rfl)) rfl ?_; clear b;rintro _ _ ⟨rfl, rfl⟩;refine ⟨bE, fun b => ?_⟩;refine gB 13 rfl rfl (dP (gK lX e9 rfl (cJ (jX a sp j d) rfl) rfl)) bE fun b => ?_;refine bu 14 rfl rfl rfl b (iF iD e9 rfl rfl rfl (by omega) (by first | exact Qac _ | rfl)) ?_;refine kv 15 rfl rfl (qn e9 rfl rfl rfl rfl (me a sp j d) (n0 a sp j (a.getD (j - 1) default) d)) bE fun b => ?_;refine bu 16 rfl rfl rfl b (iF iD e9 rfl rfl rfl (by omega) (by first | exact Qac _ | rfl)) ?_;refine kv 17 rfl rfl (qn e9 rfl rfl rfl rfl (me (a.set j (a.getD (j - 1) default)) sp (j - 1) (by rw [Qam]; omega)) (n0 (a.set j (a.getD (j - 1) default)) sp (j - 1) (a.getD j default) (by rw [Qam]; omega))) bE fun b => ?_;refine gC ?_;refine au 4 ?_;refine iS 3 (jo rfl rfl (by rw [bS (by omega)]; omega : IntKind.wrap .i64 ((j : Int) - 1) = ((j - 1 : Nat) : Int))) ?_;refine bM (swapL a j (j - 1), j - 1) ?_ (hμ := ?_) (he := ?_);have k : us a j < us a (j - 1) := by
  unfold us;unfold pj at e;split at e;assumption;split at e <;> omega
 exact ⟨(kF d (by omega)).trans f, by show j - 1 ≤ i; omega, Bi h n s (by omega) k⟩;show j - 1 < j; omega;show Ent _ (pt g (ag ((swapL a j (j - 1)).flatMap bT ++ sp) 446) :: R);unfold swapL;exact IO;skip;refine mD rfl rfl (dP (gK lX e9 rfl (cJ (jX a sp j d) rfl) rfl)) rfl ?_; clear b;rintro _ _ ⟨rfl, rfl⟩;refine ⟨bE, fun b => ?_⟩;refine gB 9 rfl rfl (dP (gK lX e9 rfl (cJ (jX a sp (j - 1) (by omega)) rfl) rfl)) bE fun b => ?_;refine bu 14 rfl rfl rfl b (iF iD e9 rfl rfl rfl (by omega) (by first | exact Qac _ | rfl)) ?_;refine kv 15 rfl rfl (qn e9 rfl rfl rfl rfl (me a sp j d) (n0 a sp j (a.getD (j - 1) default) d)) bE fun b => ?_;refine bu 16 rfl rfl rfl b (iF iD e9 rfl rfl rfl (by omega) (by first | exact Qac _ | rfl)) ?_;refine kv 17 rfl rfl (qn e9 rfl rfl rfl rfl (me (a.set j (a.getD (j - 1) default)) sp (j - 1) (by rw [Qam]; omega)) (n0 (a.set j (a.getD (j - 1) default)) sp (j - 1) (a.getD j default) (by rw [Qam]; omega))) bE fun b => ?_;refine gC ?_;refine au 4 ?_;refine iS 3 (jo rfl rfl (by rw [bS (by omega)]; omega : IntKind.wrap .i64 ((j : Int) - 1) = ((j - 1 : Nat) : Int))) ?_;refine bM (swapL a j (j - 1), j - 1) ?_ (hμ := ?_) (he := ?_);have k : us a j < us a (j - 1) := by
  unfold us;unfold pj at e;split at e;assumption;split at e <;> omega
 exact ⟨(kF d (by omega)).trans f, by show j - 1 ≤ i; omega, Bi h n s (by omega) k⟩;show j - 1 < j; omega;show Ent _ (pt g (ag ((swapL a j (j - 1)).flatMap bT ++ sp) 446) :: R);unfold swapL;exact IO;refine au 6 ?_
 have m : ∀ p q, p < q → q ≤ i → us a p ≤ us a q := ET h (by
   first
     | (left; omega)
     | (right
        unfold us;unfold pj at e;split at e
        · omega
        omega))
 refine au 2 ?_;refine iS 3 (cY rfl rfl (by rw [bS (by omega)]; omega : IntKind.wrap .i64 ((i : Int) + 1) = ((i + 1 : Nat) : Int))) ?_;refine bM (a, i + 1) ?_ (hμ := ?_);exact ⟨f, Nat.succ_pos _, by show i + 1 ≤ its.length; omega, fun p q o r => m p q o (by dsimp only at r; omega)⟩;show its.length - (i + 1) < its.length - i; omega;intro x;refine aj 4 13 b ?_;refine gC ?_;refine au 8 ?_
 have m : ∀ p q, p < q → q ≤ i → us a p ≤ us a q := ET h (by
   first
     | (left; omega)
     | (right
        unfold us;unfold pj at e;split at e
        · omega
        omega))
 refine au 2 ?_;refine iS 3 (cY rfl rfl (by rw [bS (by omega)]; omega : IntKind.wrap .i64 ((i : Int) + 1) = ((i + 1 : Nat) : Int))) ?_;refine bM (a, i + 1) ?_ (hμ := ?_);exact ⟨f, Nat.succ_pos _, by show i + 1 ≤ its.length; omega, fun p q o r => m p q o (by dsimp only at r; omega)⟩;show its.length - (i + 1) < its.length - i; omega;refine au 4 ?_;refine bK (.inr rfl) .nil ?_;obtain rfl : i = its.length := by omega
 exact ⟨_, ⟨l, rfl, rfl, u, b⟩, IO⟩
theorem a1x (x : Nat) (f : x < 60000) : sP W0 461 [.int .u64 x] R (fun v B => ∃ r : Nat, v = iQ r ∧ B = R) := by
 refine am func461 ntmps461 ?_;refine aD rfl (fun b => ?_) fun b => ?_;omega;refine aw ?_;refine aD rfl (fun c => ?_) fun c => ?_;omega;refine au 2 ?_;refine dw (fun z : Nat × Nat => z.1 < 256 ∧ z.2 ≤ 8) (fun z => [(0, .int .u64 z.1), (2, iQ z.2)]) (fun _ => R) ?_ ?_;refine au 6 ?_;refine ai (fun d => ?_) fun d => ?_;refine aa (j8 rfl rfl (by decide) (jS (s := 8) (by decide))) ?_;refine aa co ?_;exact bY (x / 2 ^ 8, 8) (by omega);exact bY (x, 0) (by omega);intro ⟨y, n⟩ ⟨a, e⟩;dsimp only at a e ⊢;refine aw ?_;refine ac rfl (bD (D2 (by omega))) ?_;refine XV (j := y) rfl O1 rfl rfl rfl (by show y < 256; exact a) fun m g => ?_;refine aa (bD (bS (by omega))) ?_;refine aa (ee (n + m)) ?_;refine ae ?_;exact ⟨_, ⟨n + m, rfl, rfl⟩, IO⟩
theorem EU (x : Nat) (b : x < 60000) : sP W0 450 [.int .u64 x] R (fun v B => ∃ r : Nat, v = iQ r ∧ B = R) := by
 refine jq 6 func450 ntmps450 ?_;refine XT ?_;refine aw ?_;refine aG rfl (aC call461 (a1x x b)) ?_;rintro _ c ⟨r, rfl, a⟩;obtain rfl := a.symm;refine aw ?_;refine ae ?_;exact ⟨_, ⟨r, rfl, rfl⟩, IO⟩
theorem a1y g c its sp k (h : its.length ≤ 12) (b : 0 < its.length) : sP W0 449 [.slice (some ⟨g, 0, none⟩) its.length c, iQ 0, iQ its.length, iQ k, .func (.func 436) #[] #[]] (pt g (ag (its.flatMap bT ++ sp) 446) :: R) (fun v B => ∃ l, v = .tuple #[] ∧ B = pt g (ag (l.flatMap bT ++ sp) 446) :: R ∧ l.Perm its ∧ ∀ p q, p < q → q < its.length → us l p ≤ us l q) := by
 refine am func449 ntmps449 ?_;refine d7 (fun _ : Unit => True) (fun _ => [(0, .slice (some ⟨g, 0, none⟩) its.length c), (1, iQ 0), (2, iQ (its.length : Nat)), (3, iQ k), (4, .func (.func 436) #[] #[])]) (fun _ => pt g (ag (its.flatMap bT ++ sp) 446) :: R) (fun _ => 0) () ?_ ?_;trivial;intro u i;refine aw ?_;refine aa (o8 its.length) ?_;refine aD rfl (fun d => ?_) fun d => ?_;refine au 6 ?_;refine aG rfl (ao call452 (a1w g c its sp (by omega) b)) ?_;rintro _ j ⟨l, rfl, a, e, f⟩;obtain rfl := a.symm;refine aw ?_;refine bK (.inl rfl) .nil ?_;exact ⟨_, ⟨l, rfl, rfl, e, f⟩, IO⟩;omega
theorem KJ a c k : sQ W0 449 [.slice a 0 c, iQ 0, iQ 0, iQ k, .func (.func 436) #[] #[]] R (.tuple #[]) R := by
 have b : bH Tryz.prog W0 452 [.slice a 0 c, iQ 0, iQ 0, .func (.func 436) #[] #[]] R (fun v B => v = .tuple #[] ∧ B = R) := by
  refine am func452 ntmps452 ?_;refine aa co ?_;refine d7 (fun _ : Unit => True) (fun _ => [(2, iQ 0), (8, iQ 1)]) (fun _ => R) (fun _ => 0) () ?_ ?_;trivial;intro u d;refine aw ?_;refine aD rfl (fun e => ?_) fun e => ?_;omega;refine aw ?_;refine bK (.inr rfl) .nil ?_;exact ap
 refine am func449 ntmps449 ?_;refine d7 (fun _ : Unit => True) (fun _ => [(0, .slice a 0 c), (1, iQ 0), (2, iQ 0), (3, iQ k), (4, .func (.func 436) #[] #[])]) (fun _ => R) (fun _ => 0) () ?_ ?_;trivial;intro u d;refine aw ?_;refine aa gW ?_;refine aD rfl (fun f => ?_) fun f => ?_;refine au 6 ?_;refine ah (aC call452 (b)) ?_;refine bK (.inl rfl) .nil ?_;exact ap;omega
theorem a1z a c its (k : its.length ≤ 12) : sP W0 443 [.slice a its.length c, .func (.func 436) #[] #[]] (osl 446 6 (.slice a its.length c) (its.flatMap bT) :: R) (fun v B => ∃ l, v = .tuple #[] ∧ B = osl 446 6 (.slice a its.length c) (l.flatMap bT) :: R ∧ l.Perm its ∧ ∀ p q, p < q → q < its.length → us l p ≤ us l q) := by
 refine xq (fun d e => ?_) fun g n m o d e i s t => ?_;have u : its.length = 0 := by grind
 obtain rfl : its = [] := QaE u;cases d;refine am O3 ntmps443 ?_;refine aa (bD (show IntKind.wrap .u64 ((0 : Nat) : Int) = ((0 : Nat) : Int) from rfl)) ?_;refine aG rfl (aC O4 (EU 0 (by decide))) ?_;rintro _ f ⟨r, rfl, b⟩;obtain rfl := b.symm;refine aw ?_;refine ah (aC O5 (KJ none 0 r)) ?_;refine bK (.inr rfl) .nil ?_;exact ⟨_, ⟨[], rfl, rfl, QaO _, fun p q _ h => by simp at h⟩, fQ⟩;cases d;by_cases w : its.length = 0;obtain rfl : its = [] := QaE w;refine am O3 ntmps443 ?_;refine aa (bD (show IntKind.wrap .u64 ((0 : Nat) : Int) = ((0 : Nat) : Int) from rfl)) ?_;refine aG rfl (aC O4 (EU 0 (by decide))) ?_;rintro _ f ⟨r, rfl, b⟩;obtain rfl := b.symm;refine aw ?_;refine ah (aC O5 (KJ _ c r)) ?_;refine bK (.inr rfl) .nil ?_;exact ⟨_, ⟨[], rfl, rfl, QaO _, fun p q _ h => by simp at h⟩, fC e i s t⟩;skip;refine am O3 ntmps443 ?_;refine aa (bD (show IntKind.wrap .u64 ((its.length : Nat) : Int) = ((its.length : Nat) : Int) from by simp only [IntKind.wrap, IntKind.bits, IntKind.signed]; simp; omega)) ?_;refine aG rfl (aC O4 (EU its.length (by omega))) ?_;rintro _ f ⟨r, rfl, b⟩;obtain rfl := b.symm;refine aw ?_;refine aG rfl (ao O5 (a1y g c its o r k (by omega))) ?_;rintro _ f ⟨l, rfl, b, j, x⟩;obtain rfl := b.symm;have y := j.length_eq;refine aw ?_;refine bK (.inr rfl) .nil ?_;exact ⟨_, ⟨l, rfl, rfl, j, x⟩, fC e i (by grind) (by grind)⟩
theorem a1A bs c a its (j : its.length ≤ 12) : sP W0 434 [.func (.func 444) #[] #[pQ bs], .func (.func 436) #[] #[]] (pt bs (ag [.slice a its.length c] 435) :: osl 446 6 (.slice a its.length c) (its.flatMap bT) :: R) (fun v B => ∃ (l : List It) (a' : Option Addr) (e : Nat), v = .slice a' l.length e ∧ B = osl 446 6 (.slice a' l.length e) (l.flatMap bT) :: osl 446 6 (.slice a its.length c) (its.flatMap bT) :: R ∧ l.Perm its ∧ ∀ p q, p < q → q < its.length → us l p ≤ us l q) := by
 refine am func434 ntmps434 ?_;refine aG rfl (cA call442 (a1u bs c a its (by omega))) ?_;rintro _ k ⟨f, g, rfl, b⟩;obtain rfl := b.symm;refine aw ?_;refine aG rfl (ao call443 (a1z f g its j)) ?_;rintro _ k ⟨l, rfl, b, h, i⟩;obtain rfl := b.symm;have d := h.length_eq;refine aw ?_;refine ae ?_;rw [← d] at i ⊢;exact ⟨_, ⟨l, f, g, rfl, rfl, h, i⟩, IO⟩
theorem KL : ∀ {l L : List It}, l.Perm L → (∀ p q, p < q → q < l.length → us l p ≤ us l q) → L.Pairwise (fun x y => x.u < y.u) → l = L
 | [], L, a, _, _ => a.nil_eq
 | x :: l, [], a, _, _ => by have := a.length_eq; simp at this
 | x :: l, y :: L, a, c, d => by
  have k : ∀ z ∈ l, x.u ≤ z.u := fun z f => by
   obtain ⟨i, g, rfl⟩ := Qbb.1 f;have := c 0 (i + 1) (by omega) (by simp; omega);simpa [us, g] using this
  obtain ⟨h, b⟩ := Qbi.1 d;have m : x ∈ y :: L := a.subset (Qbj ..);have n : y ∈ x :: l := a.symm.subset (Qbj ..);have e : x = y := by
   grind
  subst e
  rw [KL (a.cons_inv) (fun p q j o => by
   have := c (p + 1) (q + 1) (by omega) (by simp; omega)
   simpa [us] using this) b]
def uT (x : It) : List Value := [.int .i64 x.kr, .int .i64 x.kp, .int .i64 x.ep, .int .i64 x.ef, .int .i64 x.er]
theorem a1B x : (uT x).length = 5 := rfl
theorem a1C b its rm nw now L (j : Rep its now L) (M : L.length ≤ 12) : sP W0 410 [pQ b] (aZ b (its, [rm, nw, .bool true]) :: R) (fun v B => ∃ a c, v = .slice a L.length c ∧ B = osl 387 5 (.slice a L.length c) (L.flatMap uT) :: aZ b (its, [rm, nw, .bool true]) :: R) := by
 have m := j.length;refine am func410 ntmps410 ?_;refine ew 2 (ao zA (wi b its rm nw)) ?_;refine aD rfl (fun d => ?_) fun d => ?_;exact absurd d (by decide);refine aw ?_;refine AU (b := b) fun r s => ?_;refine aw ?_;refine aG rfl (aC call435 (a1o r its.length s)) ?_;rintro _ y ⟨z, rfl, e⟩;obtain rfl := e.symm;refine aG rfl (cA call434 (a1A z s r its (by omega))) ?_;rintro _ y ⟨l, h, d, rfl, e, t, A⟩;obtain rfl := e.symm;have C := t.length_eq;obtain rfl : l = L := KL (t.trans j.perm) (fun p q D N => A p q D (by omega)) j.sort;refine dr (B := aZ b (its, [rm, nw, .bool true]) :: osl 446 6 (.slice h l.length d) (l.flatMap bT) :: R) (rY rfl) ?_;refine aw ?_;refine gU (fun X : Nat × Option Addr × Nat => X.1 ≤ l.length) (fun X => [(4, .slice X.2.1 X.1 X.2.2), (16, .slice h l.length d), (17, iQ (l.length : Nat)), (18, iQ X.1)]) (fun X => osl 387 5 (.slice X.2.1 X.1 X.2.2) ((l.take X.1).flatMap uT) :: aZ b (its, [rm, nw, .bool true]) :: osl 446 6 (.slice h l.length d) (l.flatMap bT) :: R) (fun X => l.length - X.1) (0, none, 0) ?_ ?_ ?_ ?_;omega
 · repeat (first | exact bC | refine bq rfl ?_)
 exact fQ;intro ⟨i, F, G⟩ hi;dsimp only at hi ⊢;refine aw ?_;refine ai (fun H => ?_) fun H => ?_;have f : i < l.length := by omega
 refine mH (E := 446) (sz := 6) (a := h) (n := l.length) (c := d) bT l iW (by decide) rfl (fun I => ?_);obtain ⟨g, o, rfl, J⟩ := I.at_ f;have k : l.take (i + 1) = l.take i ++ [l[i]] := Qap f;refine aw ?_;refine aa (bI f) ?_;refine aa (dt J) ?_;refine bi fun K => ?_;refine av aB ?_;refine gD (b := K) (o' := ag [iQ l[i].kr, iQ l[i].kp, iQ l[i].ep, iQ l[i].ef, iQ l[i].er, iQ l[i].u] 446) rfl ?_;refine aw ?_;refine aa (sH isAgg387 sr rfl TakeL.eq rfl) ?_;refine dK (j0 Gi sr Gl rfl (fR rfl rfl iG) rfl (by decide) (by decide) (by decide)) fun O => ?_;refine aG rfl (eW (sz := 5) (by_ := 40) (info := Tryz.t387) Gi (by kernel_rfl) rfl rfl rfl rfl (by decide) rfl rfl eK rfl rfl (by simp only [maxLen]; omega) (by omega)) ?_;rintro _ _ ⟨w, x, rfl, rfl⟩;refine aw ?_;refine aa co ?_;refine bM (i + 1, w, x) ?_ (he := ?_);omega;dsimp only;rw [k, QbN];show Ent _ (osl 387 5 (.slice w (i + 1) x) ((l.take i).flatMap uT ++ [[iQ l[i].kr, iQ l[i].kp, iQ l[i].ep, iQ l[i].ef, iQ l[i].er]].flatten) :: _);exact IO;refine ae ?_;obtain rfl : i = l.length := by omega
 rw [QaW (Qao _)];exact ⟨_, ⟨F, G, rfl, rfl⟩, IO⟩
theorem a1D b L (f : L.length ≤ 1000) page : sP W0 274 [pQ b, iQ page] (bQ b L :: R) (fun v B => ∃ a c, v = .slice a (L.filter fun x => x.thr page).length c ∧ B = osl 380 2 (.slice a (L.filter fun x => x.thr page).length c) ((L.filter fun x => x.thr page).flatMap uR) :: bQ b (L.filter fun x => !x.thr page) :: R) := by
 refine am func274 ntmps274 ?_;refine dK (jQ rfl rfl) fun d => ?_;refine ah (ao wX (ww b L)) ?_;refine aG rfl (rD (B := bQ b L :: kH 0 (cu [pt d (ag [iQ page] 3)]) :: R) inferInstance (aC GH (Bg b L f 332 [pQ d] _ _ (a1l W0 d page)))) ?_;rintro _ g ⟨a, c, rfl, e⟩;obtain rfl := e.symm;refine aw ?_;refine ae ?_;exact ⟨_, ⟨a, c, rfl, rfl⟩, IO⟩
theorem a1E b L (f : L.length ≤ 1000) page : sP W0 201 [pQ b, iQ page] (bQ b L :: R) (fun v B => ∃ a c, v = .slice a (L.filter (ng page)).length c ∧ B = osl 380 2 (.slice a (L.filter (ng page)).length c) ((L.filter (ng page)).flatMap uR) :: bQ b (L.filter fun x => !ng page x) :: R) := by
 refine am func201 ntmps201 ?_;refine dK (jQ rfl rfl) fun d => ?_;refine ah (ao wX (ww b L)) ?_;refine aG rfl (rD (B := bQ b L :: kH 0 (cu [pt d (ag [iQ page] 3)]) :: R) inferInstance (aC GH (Bg b L f 278 [pQ d] _ _ (a1m W0 d page)))) ?_;rintro _ g ⟨a, c, rfl, e⟩;obtain rfl := e.symm;refine aw ?_;refine ae ?_;exact ⟨_, ⟨a, c, rfl, rfl⟩, IO⟩
theorem a1F b L (e : L.length ≤ 1000) : sQ W0 368 [pQ b] (bQ b L :: R) (iQ L.length) (bQ b [] :: R) := by
 have f : L.filter (fun _ => true) = L := QaV.2 fun _ _ => rfl;have g : L.filter (fun x => !(fun _ => true) x) = [] := by simp
 refine am func368 ntmps368 ?_;refine ah (ao wX (ww b L)) ?_;refine aG rfl (rD (B := bQ b L :: kH 0 (cu []) :: R) inferInstance (aC GH (Bg b L e 399 [] _ _ (a1n W0)))) ?_;rintro _ h ⟨a, c, rfl, d⟩;obtain rfl := d.symm;rw [f, g];refine aw ?_;exact ae ap
def yy (k : dA) (L : List Ln) : Value := match l5 k L with
 | none => .tuple #[.agg (pi (0, 0, 0)).toArray, .bool false]
 | some x => .tuple #[.agg (pi x.e).toArray, .bool true]
theorem a1G {k L} (h : ∀ j (a : j < L.length), L[j].k ≠ k) : l5 k L = none := QbU.2 fun x b => by
 obtain ⟨j, a, rfl⟩ := QbM b;simpa using h j a
theorem a1H {k L i} hi (h : L[i].k = k) (a : ∀ j (a : j < L.length), j < i → L[j].k ≠ k) : l5 k L = some L[i] := by
 rw [l5, List.find?_eq_some_iff_getElem];exact ⟨by simpa using h, i, hi, rfl, fun j b => by simpa using a j (by omega) b⟩
theorem tA b L (C : L.length ≤ 1000) (k : dA) : sQ W0 347 [pQ b, .agg (iz k).toArray] (bQ b L :: R) (yy k L) (bQ b L :: R) := by
 refine am func347 ntmps347 ?_;refine bA fun m => ?_;refine bi fun p => ?_;refine ah (ao wX (ww b L)) ?_;refine yx (b := b) fun a c => ?_;refine aw ?_;refine d7 (fun i : Nat => i ≤ L.length ∧ ∀ j (f : j < L.length), j < i → L[j].k ≠ k) (fun i => [(3, pQ m), (4, pQ p), (14, .slice a L.length c), (15, iQ (L.length : Nat)), (16, iQ i)]) (fun _ => pt b (ag [.slice a L.length c, .bool true] 442) :: osl 389 7 (.slice a L.length c) (L.flatMap cT) :: pt m (ag (iz k) 380) :: pt p (ag (pi (0, 0, 0)) 385) :: R) (fun i => L.length - i) 0 ?_ ?_;grind;intro i ⟨D, r⟩;refine aw ?_;refine aD rfl (fun u => ?_) fun u => ?_;refine au 5 ?_;have d : i < L.length := by omega
 refine mH (E := 389) (sz := 7) (a := a) (c := c) (n := L.length) cT L nN (by decide) rfl (fun v => ?_);obtain ⟨g, o, h, s⟩ := v.at_ d;have e := fun q => a1H (k := k) d q r;have l : L[i].k ≠ k → ∀ j (f : j < L.length), j < i + 1 → L[j].k ≠ k := fun q j f w => by
  rcases QaD j i with y | y;grind;grind
 obtain ⟨x, z⟩ : ∃ x, L[i] = x := ⟨_, rfl⟩
 rw [z] at s e l;refine aw ?_;refine aa (eR nk ru rfl h rfl rfl d (by first | exact Qac _ | rfl)) ?_;refine aa (dt s.weak) ?_;refine bi fun F => ?_;refine av aB ?_;refine aa (sH G4 so rfl TakeL.eq rfl) ?_;refine aa (vx Tryz.eqGuardType380 rfl rfl (u7 Ch Tryz.stoodInHeld380 (lJ rfl db rfl rfl (lI jL) (lJ rfl db rfl rfl (lI jL) u6)))) ?_;refine ai (fun A => ?_) fun A => ?_;have t : x.k = k := by grind
 refine aa (sH zf sq rfl TakeL.eq rfl) ?_;refine av aB ?_;refine aS (.cons (aX zf sq rfl rfl) (.cons (aN rfl) .nil)) ?_;rw [yy, e t];exact ⟨_, ⟨rfl, rfl⟩, Ent.trans (B := pt b (ag [.slice a L.length c, .bool true] 442) :: osl 389 7 (.slice a L.length c) (L.flatMap cT) :: R) inferInstance (s0 (b := b) rfl)⟩;have t : x.k ≠ k := by grind
 refine aa co ?_;refine bM (i + 1) ?_;grind;refine aw ?_;refine av aB ?_;refine aS (.cons (aX zf sq rfl rfl) (.cons (aN rfl) .nil)) ?_;rw [yy, a1G fun j f => r j f (by omega)];exact ⟨_, ⟨rfl, rfl⟩, Ent.trans (B := pt b (ag [.slice a L.length c, .bool true] 442) :: osl 389 7 (.slice a L.length c) (L.flatMap cT) :: R) inferInstance (s0 (b := b) rfl)⟩
@[reducible] def iI (x : Int) : List Value := [.int .i64 x]
theorem qU x : (iI x).length = 1 := rfl
theorem KM (l : List Int) sp i (h : i < l.length) : (l.flatMap iI ++ sp)[i * 1]? = some (iQ (l.getD i 0)) := by
 have := mF qU l i 0 sp h (by decide);rw [QbK] at this;rw [this]; simp [List.getD, h]
theorem a1I (l : List Int) sp i x (h : i < l.length) : (l.flatMap iI ++ sp).set (i * 1) (iQ x) = (l.set i x).flatMap iI ++ sp :=
  qp qU l i 0 _ _ sp h (by decide) (by simp)
structure PFI (W0 : World) (fn : FuncId) (us cs : List Value) (C : HP) (p : Int → Bool) : Prop where
  call : ∀ args w, (callFunc fn args).run Tryz.prog w = .ok (.enter fn args) w
  spec : ∀ x R, bH Tryz.prog W0 fn (us ++ [.int .i64 x] ++ cs) (kH 0 C :: R) (fun v B => v = .bool (p x) ∧ B = kH 0 C :: R)
def a1J (l : List Int) (p : Int → Bool) (r : Int) : Prop := (r = -1 ∧ ∀ i, i < l.length → p (l.getD i 0) = false) ∨ ∃ i : Nat, r = (i : Int) ∧ i < l.length ∧ p (l.getD i 0) = true ∧ ∀ j, j < i → p (l.getD j 0) = false
theorem a1K l g c sp f us cs C p (b : PFI W0 f us cs C p) (h : l.length < 1000) : sP W0 441 [.slice (some ⟨g, 0, none⟩) l.length c, .func (.func f) us.toArray cs.toArray] (pt g (ag (l.flatMap iI ++ sp) 3) :: kH 0 C :: R) (fun v B => ∃ r, v = iQ r ∧ B = pt g (ag (l.flatMap iI ++ sp) 3) :: kH 0 C :: R ∧ a1J l p r) := by
 refine am func441 ntmps441 ?_;refine d7 (fun X : Nat => X ≤ l.length ∧ ∀ i, i < X → p (l.getD i 0) = false) (fun X => [(0, .slice (some ⟨g, 0, none⟩) l.length c), (1, .func (.func f) us.toArray cs.toArray), (7, iQ (l.length : Nat)), (8, iQ X)]) (fun X => pt g (ag (l.flatMap iI ++ sp) 3) :: kH 0 C :: R) (fun X => l.length - X) 0 ?_ ?_;grind;intro j ⟨k, a⟩;refine aw ?_;refine ai (fun e => ?_) fun e => ?_;refine aa (bI (by omega)) ?_;refine aa (aF (aJ (KM l sp j (by omega)))) ?_;refine ah (uf (us := us) (cs := cs) rfl b.call rfl (b.spec (l.getD j 0) _)) ?_;refine ai (fun d => ?_) fun d => ?_;refine ae ?_;exact ⟨_, ⟨_, rfl, rfl, .inr ⟨j, rfl, by omega, d, a⟩⟩, IO⟩;refine aa co ?_;refine bM (j + 1) ?_;grind;refine ae ?_;exact ⟨_, ⟨-1, rfl, rfl, .inl ⟨rfl, fun i m => a i (by omega)⟩⟩, IO⟩
def oy (p : Int → Bool) (l : List Int) : List Int := l.filter (fun x => !p x)
theorem KN {p l} (h : ∀ i, i < l.length → p (l.getD i 0) = false) : oy p l = l := QaV.2 fun x b => by
 obtain ⟨i, a, rfl⟩ := Qbb.1 b;have := h i a;simpa [List.getD, a] using this
theorem EV {p} {l : List Int} {j} (h : j < l.length) : oy p (l.take (j + 1)) = oy p (l.take j) ++ (if p (l.getD j 0) then [] else [l.getD j 0]) := by
 grind [Qap, oy]
structure DelN (p : Int → Bool) (its l : List Int) (i j : Nat) : Prop where
  len : l.length = its.length
  ij : i < j
  jl : j ≤ its.length
  front : l.take i = oy p (its.take j)
  back : ∀ k, j ≤ k → l.getD k 0 = its.getD k 0
theorem a1L {p} {l : List Int} {i} (h : i < l.length) (b : p (l.getD i 0) = true) (a : ∀ j, j < i → p (l.getD j 0) = false) : oy p (l.take (i + 1)) = l.take i := by
 grind [EV, Qaw, KN]
theorem DelN.skip {p its l i j} (h : DelN p its l i j) (b : j < its.length) (a : p (l.getD j 0) = true) : DelN p its l i (j + 1) := by
 refine ⟨h.len, by have := h.ij; omega, by omega, ?_, fun k c => h.back k (by omega)⟩;rw [h.back j (Qao _)] at a;rw [EV b, a, Qad rfl, Qaw]; exact h.front
theorem DelN.move {p its l i j} (h : DelN p its l i j) (b : j < its.length) (a : p (l.getD j 0) = false) : DelN p its (l.set i (l.getD j 0)) (i + 1) (j + 1) := by
 have c := h.ij;have d := h.len;have e := h.back j (Qao _);rw [e] at a ⊢;refine ⟨by rw [Qam]; exact d, by omega, by omega, ?_, fun k f => ?_⟩;rw [EV b, a, Qab (by decide), ← h.front, Qap (by rw [Qam]; omega), List.getElem_set_self, List.take_set_of_le (Qao _)];rw [← h.back k (by omega)];simp only [Qau];rw [QaP (by omega)]
theorem a1M its g c sp f us cs C p (q : PFI W0 f us cs C p) (D : its.length < 1000) (E : its.length ≤ c) (w : c ≤ maxLen) (x : (its.flatMap iI ++ sp).length = c * 1) : sP W0 430 [.slice (some ⟨g, 0, none⟩) its.length c, .func (.func f) us.toArray cs.toArray] (pt g (ag (its.flatMap iI ++ sp) 3) :: kH 0 C :: R) (fun v B => ∃ y z, v = .slice y (oy p its).length z ∧ B = osl 3 1 (.slice y (oy p its).length z) ((oy p its).flatMap iI) :: kH 0 C :: R) := by
 refine am func430 ntmps430 ?_;refine aG rfl (cA call441 (a1K its g c sp f us cs C p q D)) ?_;rintro _ F ⟨r, rfl, a, A⟩;obtain rfl := a.symm;refine aw ?_;refine aD rfl (fun G => ?_) fun G => ?_;refine au 8 ?_;refine ae ?_;have b : ∀ i, i < its.length → p (its.getD i 0) = false := by
  rcases A with ⟨_, h⟩ | ⟨i, h, _⟩;exact h;omega
 rw [KN b];exact ⟨_, ⟨_, c, rfl, rfl⟩, fC E w (cQ qU its) x⟩;obtain ⟨i, rfl, H, s, b⟩ : ∃ i : Nat, r = (i : Int) ∧ i < its.length ∧ p (its.getD i 0) = true ∧ ∀ j, j < i → p (its.getD j 0) = false := by
  rcases A with ⟨h, _⟩ | h;omega;exact h
 refine aw ?_;refine aa (ee (i + 1)) ?_;refine d7 (fun X : List Int × Nat × Nat => DelN p its X.1 X.2.1 X.2.2) (fun X => [(0, .slice (some ⟨g, 0, none⟩) its.length c), (1, .func (.func f) us.toArray cs.toArray), (5, iQ X.2.1), (6, iQ X.2.2)]) (fun X => pt g (ag (X.1.flatMap iI ++ sp) 3) :: kH 0 C :: R) (fun X => its.length - X.2.2) (its, i, i + 1) ?_ ?_;exact ⟨rfl, Nat.lt_succ_self _, by show i + 1 ≤ its.length; omega, (a1L H s b).symm, fun _ _ => rfl⟩;intro ⟨l, m, j⟩ hD;dsimp only at hD ⊢;have N := hD.len;have I := hD.ij;have J := hD.jl;refine aw ?_;refine aD rfl (fun K => ?_) fun K => ?_;refine au 2 ?_;refine dw (fun Z : List Int × Nat => DelN p its Z.1 Z.2 (j + 1)) (fun Z => [(0, .slice (some ⟨g, 0, none⟩) its.length c), (1, .func (.func f) us.toArray cs.toArray), (5, iQ Z.2), (6, iQ j)]) (fun Z => pt g (ag (Z.1.flatMap iI ++ sp) 3) :: kH 0 C :: R) ?_ ?_;refine au 5 ?_;refine aa (bI (by omega)) ?_;refine aa (aF (aJ (KM l sp j (by omega)))) ?_;refine ah (uf (us := us) (cs := cs) rfl q.call rfl (q.spec (l.getD j 0) _)) ?_;refine ai (fun t => ?_) fun t => ?_;have d : p (l.getD j 0) = false := by simpa using t
 refine aa (bI (by omega)) ?_;refine av (du (by rw [Qae, cQ qU]; omega) (a1I l sp m (l.getD j 0) (by omega))) ?_;refine aa (ee (m + 1)) ?_;exact bY (l.set m (l.getD j 0), m + 1) (hD.move (by omega) d);have d : p (l.getD j 0) = true := by simpa using t
 exact bY (l, m) (hD.skip (by omega) d);intro ⟨L, M⟩ hD2;refine aw ?_;refine aa (ee (j + 1)) ?_;refine bM (L, M, j + 1) ?_ (hμ := ?_);exact hD2;show its.length - (j + 1) < its.length - j; omega;refine aw ?_;obtain rfl : j = its.length := by omega
 have e := hD.front;rw [QaW (Qao _)] at e;have u : (oy p its).length = m := by rw [← e, QaT]; omega
 refine aa (vY fZ aR rfl rfl rfl (by omega) (by omega) (Qac _)) ?_;refine eU (Eb fZ np (by simp [Value.cells, Value.oneCell']) rfl (by omega) (by rw [Qae, cQ qU]; show m * 1 + (its.length - m) * 1 ≤ _; omega)) ?_;rintro _ F ⟨o, k, rfl, a⟩;obtain rfl := a.symm;replace k : o.length = (its.length - m) * 1 := k;have n : dk (l.flatMap iI ++ sp) (m * 1) o = (oy p its).flatMap iI ++ (o ++ sp) := by
  rw [sJ _ _ _ (by rw [Qae, cQ qU]; omega), D4 qU l m sp (by omega), e, show m * 1 + o.length = l.length * 1 by omega, xo qU l l.length sp (Qao _)];simp
 rw [n];refine aw ?_;refine aa (oM fZ aR rfl rfl rfl (by omega)) ?_;refine ae ?_;rw [u];exact ⟨_, ⟨_, _, rfl, rfl⟩, fC (by omega) w (by rw [cQ qU, u]) (by rw [← x]; simp only [Qae, cQ qU, u, k]; omega)⟩
theorem a1N g x y : sP W0 431 [.slice (some ⟨g, 0, none⟩) 2 2] (pt g (ag [iQ x, iQ y] 3) :: R) (fun v B => ∃ (l : List Int) (sp : List Value), v = .slice (some ⟨g, 0, none⟩) l.length 2 ∧ l = (if x = y then [x] else [x, y]) ∧ (l.flatMap iI ++ sp).length = 2 ∧ B = pt g (ag (l.flatMap iI ++ sp) 3) :: R) := by
 refine jq 13 func431 ntmps431 ?_;refine jR ?_;refine d7 (fun k : Nat => k = 1 ∨ (k = 2 ∧ x ≠ y)) (fun k => [(0, .slice (some ⟨g, 0, none⟩) 2 2), (3, iQ k)]) (fun k => pt g (ag [iQ x, iQ y] 3) :: R) (fun k => 2 - k) 1 ?_ ?_;omega;intro k hk;refine aw ?_;refine ai (fun c4 => ?_) fun c4 => ?_;obtain rfl : k = 1 := by
  omega
 refine bc [g] 10 fun hS => ?_;refine aj 0 2 hS ?_;refine az 2 hS (iF fZ aR rfl rfl (j := 1) rfl (by decide) (by first | exact Qac _ | rfl)) ?_;refine aj 3 3 hS ?_;refine az 6 hS gW ?_;refine az 7 hS (iF fZ aR rfl rfl (j := 0) rfl (by decide) (by first | exact Qac _ | rfl)) ?_;refine aj 8 2 hS ?_;refine aK ?_;refine ai (fun c6 => ?_) fun c6 => ?_;refine aa (vY fZ aR rfl rfl (i := 1) rfl (by decide) (by decide) (Qac _)) ?_;refine d7 (fun j : Nat => j = 1) (fun j => [(0, .slice (some ⟨g, 0, none⟩) 2 2), (3, iQ 1), (4, .slice (some ⟨g, 1, none⟩) 1 1), (5, iQ j)]) (fun j => pt g (ag [iQ x, iQ y] 3) :: R) (fun j => 2 - j) 1 ?_ ?_;rfl;intro j hj;refine aw ?_;refine aD rfl (fun c9 => ?_) fun c9 => ?_;omega;refine aw ?_;refine aa (vY fZ aR rfl rfl (i := 1) rfl (by decide) (by decide) (Qac _)) ?_;refine eU (Eb fZ np (by simp [Value.cells, Value.oneCell']) rfl (by decide) (Qaa rfl)) ?_;rintro _ B_ ⟨vs, hvs, rfl, hB_⟩;obtain rfl := hB_.symm;obtain ⟨v, rfl⟩ : ∃ v, vs = [v] := by
  rcases vs with _ | ⟨v, _ | ⟨w, vs⟩⟩;exact absurd hvs (by decide);grind;exact absurd hvs (by simp [Value.cells])
 refine aw ?_;refine aa (oM fZ aR rfl rfl (h := 1) rfl (by decide)) ?_;refine ae ?_;have hxy : x = y := by omega
 exact ⟨_, ⟨[x], [v], rfl, by rw [Qad hxy], rfl, rfl⟩, (inferInstance : Ent (pt g (ag [iQ x, v] 3) :: R) (pt g (ag [iQ x, v] 3) :: R))⟩;refine aa (cY rfl rfl (by rw [bS (by omega)]; rfl : IntKind.wrap .i64 (1 + 1) = ((2 : Nat) : Int))) ?_;exact bM 2 (.inr ⟨rfl, by omega⟩);refine ae ?_;have hxy : x ≠ y := by
  rcases hk with h | h;omega;exact h.2
 exact ⟨_, ⟨[x, y], [], rfl, by rw [Qab hxy], rfl, rfl⟩, (inferInstance : Ent (pt g (ag [iQ x, iQ y] 3) :: R) (pt g (ag [iQ x, iQ y] 3) :: R))⟩
theorem a1O W0 b L (a : L.length ≤ 1000) : PFI W0 432 [pQ b] [] (cu [bQ b L]) (hQ L) := ⟨call432, fun x R => by
 refine pI ?_;simp only [Qay, Qax];refine iH (a1j b L a x) fun v B c => ?_;obtain ⟨rfl, rfl⟩ := c
 exact ⟨_, ⟨rfl, rfl⟩, inferInstance⟩⟩
theorem a1P b L (j : L.length ≤ 1000) r l : sP W0 406 [pQ b, iQ r, iQ l] (bQ b L :: R) (fun v B => ∃ a c, v = .slice a (mg L r l).length c ∧ B = osl 3 1 (.slice a (mg L r l).length c) ((mg L r l).flatMap iI) :: bQ b L :: R) := by
 refine am func406 ntmps406 ?_;refine aa (sT rfl rfl (r := min r l) (by omega)) ?_;refine aa (vX rfl rfl (r := max r l) (by omega)) ?_;refine dK (kl fZ aR np rfl rfl rfl rfl rfl (by decide) (by decide)) fun g => ?_;refine aG rfl (ao call431 (a1N g (min r l) (max r l))) ?_;rintro _ k ⟨f, i, rfl, m, e, d⟩;obtain rfl := d.symm;have h : oy (hQ L) f = mg L r l := by
  grind [mg, oy]
 have n : f.length ≤ 2 := by grind
 refine aw ?_;refine aG rfl (rD (B := pt g (ag (f.flatMap iI ++ i) 3) :: kH 0 (cu [bQ b L]) :: R) inferInstance (aC call430 (a1M f g 2 i 432 [pQ b] [] _ _ (a1O W0 b L j) (by omega) n (by simp only [maxLen]; omega) e))) ?_;rintro _ k ⟨a, c, rfl, d⟩;obtain rfl := d.symm;rw [h];refine A0 ?_;simp only [Qay, Qax];refine aw ?_;refine ae ?_;exact ⟨_, ⟨a, c, rfl, rfl⟩, IO⟩
theorem a1Q (L : List Ln) sp i hi : ((L.flatMap cT ++ sp).drop (i * 7)).take 7 = cT L[i] := rC nN L i sp hi
theorem KO (L : List Ln) sp i j hi (a : j < 7) : (L.flatMap cT ++ sp)[i * 7 + j]? = (cT L[i])[j]? := mF nN L i j sp hi a
theorem KP (L : List Ln) sp i hi : (L.flatMap cT ++ sp).set (i * 7 + 4) (iQ (iA L[i].e.2.2)) = (L.set i L[i].nar).flatMap cT ++ sp :=
  qp nN L i 4 _ _ sp hi (by decide) rfl
theorem a1R {W0 A R g L sp} [h : Tk pt g A (ag (L.flatMap cT ++ sp) 389) R] : cF (aT W0 A) (some ⟨g, 0, none⟩) 7 cT L := fun i x a => by
 obtain ⟨b, rfl⟩ := List.getElem?_eq_some_iff.1 a;refine ⟨g, 0, rfl, ?_⟩;rw [Qac];exact cJ (a1Q L sp i b) rfl
theorem a1S b v0 : sQ W0 276 [pQ b] (pt b (ag [v0, .bool true] 442) :: R) (.bool false) (pt b (ag [v0, .bool true] 442) :: R) := by
 refine am func276 ntmps276 ?_;refine dj rfl rfl rfl (fun a => ?_) fun a => ?_;cases a;refine aw ?_;exact ae ap
theorem a1T b L (A : L.length ≤ 1000) a n c (r : L.length = n) (s : cF (aT W0 (pt b (ag [.slice a n c, .bool true] 442) :: R)) a 7 cT L) p : sQ W0 432 [pQ b, iQ p] (pt b (ag [.slice a n c, .bool true] 442) :: R) (.bool (hQ L p)) (pt b (ag [.slice a n c, .bool true] 442) :: R) := by
 subst r;refine am func432 ntmps432 ?_;refine ah (ao wX (a1S b _)) ?_;refine d7 (fun i : Nat => i ≤ L.length ∧ ∀ j (f : j < L.length), j < i → L[j].thr p = false) (fun i => [(0, pQ b), (1, iQ p), (12, iQ (L.length : Nat)), (13, iQ i)]) (fun _ => pt b (ag [.slice a L.length c, .bool true] 442) :: R) (fun i => L.length - i) 0 ?_ ?_;grind;intro i ⟨B, t⟩;refine aw ?_;refine aD rfl (fun u => ?_) fun u => ?_;refine au 11 ?_;have d : i < L.length := by omega
 obtain ⟨g, o, k, l⟩ := s.at_ d;obtain ⟨x, h⟩ : ∃ x, L[i] = x := ⟨_, rfl⟩
 have e : x.thr p = true → hQ L p = true := fun q => uN.2 ⟨x, by rw [← h]; exact QaF d, q⟩;have v : x.thr p = false → ∀ j (f : j < L.length), j < i + 1 → L[j].thr p = false := fun q j f w => by
  rcases QaD j i with y | y;grind;grind
 rw [h] at l;refine aw ?_;refine aa (eR nk ru rfl k rfl rfl d (by first | exact Qac _ | rfl)) ?_;refine ah (aC GG (Bf g (o + i * 7) x l p)) ?_;refine ai (fun m => ?_) fun m => ?_;refine ae ?_;rw [e m];exact ap;refine aa co ?_;refine bM (i + 1) ?_;grind;refine aw ?_;refine ae ?_;have z : hQ L p = false := by
  rw [← Qat, uN];rintro ⟨x, h, q⟩;obtain ⟨j, f, rfl⟩ := QbM h;rw [t j f (by omega)] at q; cases q
 rw [z];exact ap
def kN (r l : Int) (L : List Ln) (i : Nat) : List Ln := (L.take i).map (dX r l) ++ L.drop i
theorem KQ r l L i (a : i ≤ L.length) : (kN r l L i).length = L.length := by simp [kN]; omega
theorem a1U {r l : Int} {L : List Ln} {i : Nat} (a : i < L.length) : (kN r l L i)[i]'(by grind [KQ]) = L[i] := by
 grind [kN]
theorem a1V {r l L i} hi : kN r l L (i + 1) = (kN r l L i).set i (dX r l L[i]) := by
 have a : ((L.take i).map (dX r l)).length = i := by simp; omega
 unfold kN;rw [Qap hi, QaG, QcH, Qbf hi (l := L), Qbz _ _ (by omega), a, Nat.sub_self, List.set_cons_zero];simp
theorem KR b L z (K : (L ++ [z]).length ≤ 1000) (C : ∀ x ∈ L ++ [z], i64 x.e.2.2) r l : sQ W0 409 [pQ b, iQ r, iQ l] (bQ b (L ++ [z]) :: R) (.tuple #[]) (bQ b (wt ((L ++ [z]).map (dX r l))) :: R) := by
 have h : wt ((L ++ [z]).map (dX r l)) = L.map (dX r l) ++ [if hQ ((L ++ [z]).map (dX r l)) (dX r l z).e.1 then (dX r l z).nar else dX r l z] := by
  rw [QaG, QcH, Kq]
 have k : kN r l (L ++ [z]) (L ++ [z]).length = (L ++ [z]).map (dX r l) := by unfold kN; rw [QbH, List.drop_length, Qaw]
 obtain ⟨M, t⟩ : ∃ M, L ++ [z] = M := ⟨_, rfl⟩
 have u : M.length = L.length + 1 := by rw [← t]; simp
 rw [t] at h k K C ⊢;have D : i64 (dX r l z).e.2.2 := by
  have := C z (by rw [← t]; simp);unfold dX; split;show i64 (iA z.e.2.2);obtain ⟨N, O⟩ := this;unfold iA; split
  rename_i P
  have := Qas P;exact ⟨by omega, by omega⟩;exact ⟨N, O⟩;exact this
 refine am func409 ntmps409 ?_;refine a1h (b := b) (by intro q; rw [q] at u; simp at u) fun g c m U H I => ?_;refine aw ?_;refine gU (fun i : Nat => i ≤ M.length) (fun i => [(0, pQ b), (1, iQ r), (2, iQ l), (13, iQ (M.length : Nat)), (14, iQ i)]) (fun i => pt b (ag [.slice (some ⟨g, 0, none⟩) M.length c, .bool true] 442) :: pt g (ag ((kN r l M i).flatMap cT ++ m) 389) :: R) (fun i => M.length - i) 0 ?_ ?_ ?_ ?_;exact QaK _
 · repeat (first | exact bC | refine bq rfl ?_)
 rw [show kN r l M 0 = M by simp [kN]];exact IO;intro i Q;refine aw ?_;refine aD rfl (fun S => ?_) fun S => ?_;refine au 2 ?_;refine dw (fun _ : Unit => True) (fun _ => [(0, pQ b), (1, iQ r), (2, iQ l), (13, iQ (M.length : Nat)), (14, iQ i)]) (fun _ => pt b (ag [.slice (some ⟨g, 0, none⟩) M.length c, .bool true] 442) :: pt g (ag ((kN r l M (i + 1)).flatMap cT ++ m) 389) :: R) ?_ ?_;refine au 8 ?_;have a : i < M.length := by omega
 have p := KQ r l M i Q;have n : (kN r l M i)[i]'(by rw [p]; exact a) = M[i] := a1U a;have o := a1V (r := r) (l := l) a;have s := C _ (QaF a);have d := fun j E => KO (kN r l M i) m i j (by rw [p]; exact a) E;have f := KP (kN r l M i) m i (by rw [p]; exact a);rw [n] at d f;obtain ⟨x, J⟩ : ∃ x, M[i] = x := ⟨_, rfl⟩
 rw [J] at o s d f;refine aw ?_;refine aa (bI a) ?_;refine aa (aF (aJ ((d 2 (by decide)).trans rfl))) ?_;refine cv (fun v => ?_) fun v => ?_;refine aa (bI a) ?_;refine ah (ao O6 (ES g (i * 7) ((kN r l M i).flatMap cT ++ m) x.e.2.2 s ((d 4 (by decide)).trans rfl))) ?_;rw [f];refine bY () ?_ (he := ?_);trivial;rw [o, show dX r l x = x.nar from Qad (by omega)];exact IO;refine ai (fun T => ?_) fun T => ?_;refine aa (bI a) ?_;refine ah (ao O6 (ES g (i * 7) ((kN r l M i).flatMap cT ++ m) x.e.2.2 s ((d 4 (by decide)).trans rfl))) ?_;rw [f];refine bY () ?_ (he := ?_);trivial;rw [o, show dX r l x = x.nar from Qad (by omega)];exact IO;refine bY () ?_ (he := ?_);trivial;rw [o, show dX r l x = x from Qab (by omega), show (kN r l M i).set i x = kN r l M i by rw [← J, ← n, QbS]];exact IO;intro _ _;refine aw ?_;refine aa co ?_;exact bM (i + 1) (by omega);refine aw ?_;obtain rfl : i = M.length := by omega
 rw [k];have w : (M.map (dX r l)).length = M.length := Qav _;have y : L.length < (M.map (dX r l)).length := by omega
 have n : (M.map (dX r l))[L.length] = dX r l z := by simp [← t]
 have d := fun j E => KO (M.map (dX r l)) m L.length j y E;have f := KP (M.map (dX r l)) m L.length y;have F : (M.map (dX r l)).set L.length (dX r l z).nar = L.map (dX r l) ++ [(dX r l z).nar] := by
  rw [← t, QaG, Qbz _ _ (by simp)]; simp
 have A : M.map (dX r l) = L.map (dX r l) ++ [dX r l z] := by rw [← t, QaG]; rfl
 rw [n] at d f;refine bc [b] 12 fun B => ?_;refine aj 0 9 B ?_;refine az 9 B (o8 L.length) ?_;refine az 10 B (bI (by omega)) ?_;refine aj 11 1 B ?_;refine aK ?_;refine aa (aF (aJ ((d 2 (by decide)).trans rfl))) ?_;refine ah (ao call432 (a1T b (M.map (dX r l)) (by omega) (some ⟨g, 0, none⟩) M.length c w (a1R (g := g) (sp := m)) (dX r l z).e.1)) ?_;refine ai (fun G => ?_) fun G => ?_;refine ah (ao O6 (ES g (L.length * 7) ((M.map (dX r l)).flatMap cT ++ m) (dX r l z).e.2.2 D ((d 4 (by decide)).trans rfl))) ?_;rw [f, F];refine bK (.inr rfl) .nil ?_;rw [h, Qad G];exact ⟨_, ⟨rfl, rfl⟩, KB (b := b) rfl (by simp; omega) (by omega) H (by rw [← I]; simp only [Qae, cQ nN, Qav, Qcm]; omega)⟩;refine bK (.inr rfl) .nil ?_;rw [h, Qab G, ← A];exact ⟨_, ⟨rfl, rfl⟩, KB (b := b) rfl w.symm (by omega) H (by rw [← I]; simp only [Qae, cQ nN, Qav])⟩
theorem KS l a n c (j : l.length = n) (t : n ≤ 1000) (f : cF (aT W0 R) a 7 cT l) : sP W0 408 [.slice a n c] R (fun v B => ∃ g i, v = .slice g n i ∧ B = osl 389 7 (.slice g n i) (l.flatMap cT) :: R) := by
 subst j;refine am func408 ntmps408 ?_;refine aa (xv nk rfl rfl) ?_;refine aD rfl (fun e => ?_) fun e => ?_;refine au 7 ?_;refine ae ?_;have k : l = [] := by
  rcases l with _ | ⟨x, l⟩;rfl;obtain ⟨b, o, h, _⟩ := f 0 x rfl;rw [e] at h; cases h
 subst k;exact ⟨_, ⟨none, 0, rfl, rfl⟩, fQ⟩;have d := f.src nN (fun _ => trivial);refine ii (aH (aQ (aY (aG rfl (ui nk ru rfl) ?_))));rintro _ _ ⟨u, rfl, rfl⟩;refine aw ?_
 refine aG rfl (Av (sz := 7) (by_ := 56) (info := Tryz.t389) nk (by kernel_rfl) rfl rfl rfl rfl (by decide) rfl rfl (news := l.flatMap cT) (by
 rcases d with h | ⟨m, p, q, r⟩;grind
 right; exact ⟨m, p, q, r.weak⟩) (cQ nN l) (B9 Kn l) (by simp only [maxLen]; omega) (by omega)) ?_
 rintro _ _ ⟨s, e, rfl, rfl⟩;refine aw ?_;refine ae ?_;rw [Qac, Qax];exact ⟨_, ⟨s, e, rfl, rfl⟩, IO⟩
theorem a1W k e r l L : yw (yu k e r l L) = k7 k L ++ [⟨k, e, r, l⟩] := by
 grind [yw, yu, k7]
theorem KT {α S a g o sz f} {xs : List α} (h : cF S a sz f xs) (c : a = some ⟨g, o, none⟩) : cF S (some ⟨g, o + sz, none⟩) sz f xs.tail := fun i x k => by
 obtain ⟨b, d, e, j⟩ := h (i + 1) x (by grind);rw [c] at e; cases e;exact ⟨g, o + sz, rfl, by rw [show o + sz + i * sz = o + (i + 1) * sz by rw [Qce]; omega]; exact j⟩
theorem a1X b L (Q : L.length ≤ 32) (Z : ∀ x ∈ L, i64 x.e.2.2) (k : dA) (e : jY) (he : i64 e.2.2) r l (S : uP r = true) (T : uP l = true) : sP W0 388 [pQ b, .agg (iz k).toArray, .agg (pi e).toArray, iQ r, iQ l] (bQ b L :: R) (fun v B => ∃ a c, v = .tuple #[.slice a (mg L r l).length c, iQ 0] ∧ B = osl 3 1 (.slice a (mg L r l).length c) ((mg L r l).flatMap iI) :: bQ b (mh k e r l L) :: R) := by
 have z : L.filter (fun x => !(decide (x.k = k))) = L.filter fun x => decide (x.k ≠ k) := by
  grind
 obtain ⟨M, O⟩ : ∃ M, (L.filter fun x => decide (x.k ≠ k)) = M := ⟨_, rfl⟩
 have U : M.length ≤ 32 := by grind
 have G : k7 k L = if 31 < M.length then M.tail else M := by rw [k7, O]
 have V := Ky (k := k) Q;have A : ∀ x ∈ k7 k L ++ [(⟨k, e, r, l⟩ : Ln)], i64 x.e.2.2 := fun x W => by
  rcases QaZ.1 W with q | q;grind [EO];grind
 have X : mh k e r l L = wt ((k7 k L ++ [(⟨k, e, r, l⟩ : Ln)]).map (dX r l)) := by rw [mh, a1W]
 obtain ⟨j, C⟩ : ∃ f, mg L r l = f := ⟨_, rfl⟩
 rw [C, X];refine am func388 ntmps388 ?_;refine bA fun H => ?_;refine bA fun P => ?_;refine ah (ao wX (ww b L)) ?_;refine ah (aC call405 (KC r)) ?_;rw [S];refine ai (fun m => ?_) fun m => ?_;exact absurd rfl m;refine ah (aC call405 (KC l)) ?_;rw [T];refine aD rfl (fun t => ?_) fun t => ?_;exact absurd rfl t;refine ii (oL (aH (aQ (aY (ac rfl (aM rfl) (ac rfl (aM rfl) (ac rfl (aM rfl) ?_)))))));refine aG rfl (ao call406 (a1P b L (by omega) r l)) ?_;rintro _ I ⟨p, s, rfl, h⟩;obtain rfl := h.symm;rw [C];refine ac rfl (bj rfl) (aP (aH (aQ (aY (ac rfl (aM rfl) (ac rfl (xp rfl rfl) ?_))))));refine aG rfl (rD (B := bQ b L :: kH 0 (cu [pt H (ag (iz k) 380)]) :: osl 3 1 (.slice p j.length s) (j.flatMap iI) :: pt P (ag (pi e) 385) :: R) inferInstance (aC GH (Bg b L (by omega) 407 [pQ H] _ _ (a1k W0 H k)))) ?_;rintro _ I ⟨ak, ck, rfl, h⟩;obtain rfl := h.symm;rw [z, O];refine A0 ?_;simp only [Qay, Qax];refine yx (b := b) fun a c => ?_;refine aP (aH (aQ ?_));refine bc [H, P] 16 fun d => ?_;refine aj 0 4 d ?_;refine aj 5 2 d ?_;refine az 7 d (fB Nu Gl (aL so (aL sq fA)) (kj rfl so rfl rfl (Qaa rfl) SetRL.eq (kj rfl sq rfl rfl (Qaa rfl) SetRL.eq fz))) ?_;refine aj 8 2 d ?_;refine az 10 d (fB a7J Cl (aL sr (aL aR (aL aR fA))) (kj rfl sr rfl rfl (Qaa rfl) SetRL.eq (bW rfl aR rfl rfl (Qaa rfl) SetL.eq (bW rfl aR rfl rfl (Qaa rfl) SetL.eq fz)))) ?_;refine fP (is := [4, 11]) (by kernel_rfl) rfl ⟨?_, ?_, trivial⟩;refine dL (dP (aF (aJ rfl))) ?_; clear d;rintro _ _ ⟨rfl, rfl⟩;refine ⟨aV, fun d => ?_⟩;refine lN 11 (by kernel_rfl) rfl rfl (j0 nk ru Cl rfl (fR rfl rfl iG) rfl (by decide) (by decide) (by decide)) rfl ?_; clear d;rintro _ _ ⟨Y, rfl, rfl⟩;rw [show ([cT (⟨k, e, r, l⟩ : Ln)] : List (List Value)).flatten = cT (⟨k, e, r, l⟩ : Ln) from Qaw _];refine ⟨aV, fun d => ?_⟩;refine bX 12 (eW (sz := 7) (by_ := 56) (info := Tryz.t389) nk (by kernel_rfl) rfl rfl rfl rfl (by decide) rfl rfl eK rfl rfl (by simp only [maxLen]; omega) (by omega)) ?_; clear d;rintro _ _ ⟨u, m, rfl, rfl⟩;refine ⟨aV, fun d => ?_⟩;refine aj 13 2 d ?_;refine cj 15 eg fun d => ?_;refine gC ?_;refine au 1 ?_;refine dw (fun _ : Unit => True) (fun _ => [(0, pQ b), (3, iQ r), (4, iQ l), (12, .slice p j.length s)]) (fun _ => bQ b (k7 k L ++ [(⟨k, e, r, l⟩ : Ln)]) :: osl 3 1 (.slice p j.length s) (j.flatMap iI) :: R) ?_ ?_;refine au 10 ?_;refine ai (fun J => ?_) fun J => ?_;have o : (M.flatMap cT ++ cT (⟨k, e, r, l⟩ : Ln)) = (M ++ [(⟨k, e, r, l⟩ : Ln)]).flatMap cT := by grind
 refine rG (E := 389) (sz := 7) (a := u) (c := m) (n := M.length + 1) (ys := M.flatMap cT ++ cT (⟨k, e, r, l⟩ : Ln)) (fun K => ?_);obtain ⟨g, rfl⟩ := uz K (by simp [cT]);refine xK (E := 389) (sz := 7) (a := some ⟨g, 0, none⟩) (c := m) (n := M.length + 1) (fun D => ?_);refine mH (E := 389) (sz := 7) (a := some ⟨g, 0, none⟩) (c := m) (n := M.length + 1) cT (M ++ [(⟨k, e, r, l⟩ : Ln)]) nN (by decide) o (fun N => ?_);refine aw ?_;refine aa (vY (o' := 0 + 7) nk ru rfl rfl (i := 1) rfl (by omega) (by omega) rfl) ?_;refine aG rfl (aC call408 (KS ((M ++ [(⟨k, e, r, l⟩ : Ln)]).tail) (some ⟨g, 0 + 7, none⟩) (M.length + 1 - 1) (m - 1) (by simp) (by omega) (KT N rfl))) ?_;rintro _ I ⟨F, t, rfl, h⟩;obtain rfl := h.symm;refine ac rfl (ik rfl) ?_;refine ac rfl (cD rfl a7M rfl Ni rfl (by first | exact Qac _ | rfl)) ?_;refine eU (lL Ni rfl rfl rfl (Qaa rfl) SetL.eq) ?_;rintro _ _ rfl;refine aP (aH ?_);refine bY () ?_ (he := ?_);trivial;have w : M ≠ [] := by grind
 have y : (M ++ [(⟨k, e, r, l⟩ : Ln)]).tail = M.tail ++ [(⟨k, e, r, l⟩ : Ln)] := List.tail_append_of_ne_nil w;rw [G, Qad (by omega), ← y];exact Ent.trans (B := pt b (ag [.slice F (M.length + 1 - 1) t, .bool true] 442) :: osl 389 7 (.slice F (M.length + 1 - 1) t) ((M ++ [(⟨k, e, r, l⟩ : Ln)]).tail.flatMap cT) :: osl 3 1 (.slice p j.length s) (j.flatMap iI) :: R) inferInstance (s0 (b := b) (by simp));refine bY () ?_ (he := ?_);trivial;rw [G, Qab (by omega)];have o : (M.flatMap cT ++ cT (⟨k, e, r, l⟩ : Ln)) = (M ++ [(⟨k, e, r, l⟩ : Ln)]).flatMap cT := by grind
 rw [o];exact Ent.trans (B := pt b (ag [.slice u (M.length + 1) m, .bool true] 442) :: osl 389 7 (.slice u (M.length + 1) m) ((M ++ [(⟨k, e, r, l⟩ : Ln)]).flatMap cT) :: osl 3 1 (.slice p j.length s) (j.flatMap iI) :: R) inferInstance (s0 (b := b) (by simp));intro _ _;refine aQ (aY (ac rfl (aM rfl) (ac rfl (aM rfl) (ac rfl (aM rfl) ?_))));refine aG rfl (iZ call409 rfl (KR b (k7 k L) (⟨k, e, r, l⟩ : Ln) (by simp; omega) A r l)) ?_;rintro _ I ⟨rfl, h⟩;obtain rfl := h.symm;refine aP (aH (aQ (aY (ac rfl (aM rfl) (ac rfl (bj rfl) (ac rfl (bj rfl) (aP (aH (dv (aA ?_))))))))));exact ⟨_, ⟨p, s, rfl, rfl⟩, IO⟩;skip;refine mD rfl rfl (j0 nk ru Cl rfl (fR rfl rfl iG) rfl (by decide) (by decide) (by decide)) rfl ?_; clear d;rintro _ _ ⟨Y, rfl, rfl⟩;rw [show ([cT (⟨k, e, r, l⟩ : Ln)] : List (List Value)).flatten = cT (⟨k, e, r, l⟩ : Ln) from Qaw _];refine ⟨aV, fun d => ?_⟩;refine bG 4 (dP (aF (aJ rfl))) fun d => ?_;refine bX 12 (eW (sz := 7) (by_ := 56) (info := Tryz.t389) nk (by kernel_rfl) rfl rfl rfl rfl (by decide) rfl rfl eK rfl rfl (by simp only [maxLen]; omega) (by omega)) ?_; clear d;rintro _ _ ⟨u, m, rfl, rfl⟩;refine ⟨aV, fun d => ?_⟩;refine aj 13 2 d ?_;refine cj 15 eg fun d => ?_;refine gC ?_;refine au 1 ?_;refine dw (fun _ : Unit => True) (fun _ => [(0, pQ b), (3, iQ r), (4, iQ l), (12, .slice p j.length s)]) (fun _ => bQ b (k7 k L ++ [(⟨k, e, r, l⟩ : Ln)]) :: osl 3 1 (.slice p j.length s) (j.flatMap iI) :: R) ?_ ?_;refine au 10 ?_;refine ai (fun J => ?_) fun J => ?_;have o : (M.flatMap cT ++ cT (⟨k, e, r, l⟩ : Ln)) = (M ++ [(⟨k, e, r, l⟩ : Ln)]).flatMap cT := by grind
 refine rG (E := 389) (sz := 7) (a := u) (c := m) (n := M.length + 1) (ys := M.flatMap cT ++ cT (⟨k, e, r, l⟩ : Ln)) (fun K => ?_);obtain ⟨g, rfl⟩ := uz K (by simp [cT]);refine xK (E := 389) (sz := 7) (a := some ⟨g, 0, none⟩) (c := m) (n := M.length + 1) (fun D => ?_);refine mH (E := 389) (sz := 7) (a := some ⟨g, 0, none⟩) (c := m) (n := M.length + 1) cT (M ++ [(⟨k, e, r, l⟩ : Ln)]) nN (by decide) o (fun N => ?_);refine aw ?_;refine aa (vY (o' := 0 + 7) nk ru rfl rfl (i := 1) rfl (by omega) (by omega) rfl) ?_;refine aG rfl (aC call408 (KS ((M ++ [(⟨k, e, r, l⟩ : Ln)]).tail) (some ⟨g, 0 + 7, none⟩) (M.length + 1 - 1) (m - 1) (by simp) (by omega) (KT N rfl))) ?_;rintro _ I ⟨F, t, rfl, h⟩;obtain rfl := h.symm;refine aw ?_;refine av eg ?_;refine bY () ?_ (he := ?_);trivial;have w : M ≠ [] := by grind
 have y : (M ++ [(⟨k, e, r, l⟩ : Ln)]).tail = M.tail ++ [(⟨k, e, r, l⟩ : Ln)] := List.tail_append_of_ne_nil w;rw [G, Qad (by omega), ← y];exact Ent.trans (B := pt b (ag [.slice F (M.length + 1 - 1) t, .bool true] 442) :: osl 389 7 (.slice F (M.length + 1 - 1) t) ((M ++ [(⟨k, e, r, l⟩ : Ln)]).tail.flatMap cT) :: osl 3 1 (.slice p j.length s) (j.flatMap iI) :: R) inferInstance (s0 (b := b) (by simp));refine bY () ?_ (he := ?_);trivial;rw [G, Qab (by omega)];have o : (M.flatMap cT ++ cT (⟨k, e, r, l⟩ : Ln)) = (M ++ [(⟨k, e, r, l⟩ : Ln)]).flatMap cT := by grind
 rw [o];exact Ent.trans (B := pt b (ag [.slice u (M.length + 1) m, .bool true] 442) :: osl 389 7 (.slice u (M.length + 1) m) ((M ++ [(⟨k, e, r, l⟩ : Ln)]).flatMap cT) :: osl 3 1 (.slice p j.length s) (j.flatMap iI) :: R) inferInstance (s0 (b := b) (by simp));intro _ _;refine aw ?_;refine ah (ao call409 (KR b (k7 k L) (⟨k, e, r, l⟩ : Ln) (by simp; omega) A r l)) ?_;refine aA ?_;exact ⟨_, ⟨p, s, rfl, rfl⟩, IO⟩
def qV (pg : List Pl) (n : Int) : Int := if jr n then (if aW pg n then 0 else 3) else 1
def fI (pg : List Pl) (n : Int) : List Pl := if aW pg n then pg.set n.toNat (0, 0) else pg
theorem KU {pg n} (h : aW pg n = true) : jr n = true := by
 grind [aW]
theorem KV {pg n} (h : Pgs pg) : Pgs (fI pg n) := by
 unfold fI; split;refine ⟨by simp [h.len], fun m b a => ?_⟩;unfold eh at a ⊢;by_cases e : n.toNat = m;grind;simp only [Qau, QaP e] at a ⊢;have := h.ok m b;unfold eh at this;simp only [Qau] at this;exact this a;exact h
theorem KW b pg (h : Pgs pg) n : sQ W0 129 [pQ b, iQ n] (pt b (bN pg) :: R) (iQ (qV pg n)) (pt b (bN (fI pg n)) :: R) := by
 have g := h.len;refine am NH ntmps129 ?_;refine ah (ao Co (xB b pg h)) ?_;refine ah (aC Cn (xC n)) ?_;refine ai (fun d => ?_) fun d => ?_;refine ae ?_;have c : jr n = false := by grind
 have a : aW pg n = false := by simp [aW, c]
 exact ⟨_, ⟨by simp [aO, qV, c], by rw [fI, a, Qab (by decide)]⟩, IO⟩;have c : jr n = true := by grind
 refine ah (ao NG (Ds b pg h n)) ?_;refine ai (fun e => ?_) fun e => ?_;refine ae ?_;have a : aW pg n = false := by grind
 exact ⟨_, ⟨by simp [aO, qV, c, a], by rw [fI, a, Qab (by decide)]⟩, IO⟩;have a : aW pg n = true := by grind
 obtain ⟨i, rfl, f⟩ := kT c;refine aa (eL f) ?_;refine av (iK (by grind [Ij]) (A8 (p := (0, 0)) (by omega))) ?_;refine ae ?_;rw [show fI pg i = pg.set i (0, 0) by rw [fI, Qad a, Qaf]];exact ⟨_, ⟨by simp [aO, qV, c, a], rfl⟩, IO⟩
theorem a1Y {pg : List Pl} {i} (h : pg.length = 12) (b : i < 12) : dk ((pg.map kz ++ pg.flatMap g7).set (i * 1) (.bool false)) (12 + i * 2) (g7 (0, 0)) = (pg.set i (0, 0)).map kz ++ (pg.set i (0, 0)).flatMap g7 := by
 have a : kz (0, 0) = .bool false := by rfl
 rw [QaA, QbX _ _ (by simp; omega), ← a, ← List.map_set];have e := Dx (g7 (0, 0)) ((pg.set i (0, 0)).map kz) (pg.flatMap g7) (i * 2);rw [show ((pg.set i (0, 0)).map kz).length = 12 by simp [h]] at e;rw [e];have := A8 (pg := pg) (sp := []) (n := i) (p := (0, 0)) (by omega);rw [Qaw, Qaw] at this;rw [this]
theorem KX b pg (h : Pgs pg) n : sQ W0 132 [pQ b, iQ n] (pt b (dN pg) :: R) (iQ (qV pg n)) (pt b (dN (fI pg n)) :: R) := by
 have g := h.len;refine am func132 ntmps132 ?_;refine ah (aC NK (Dy n)) ?_;refine ai (fun j => ?_) fun j => ?_;refine ae ?_;have d : jr n = false := by grind
 have c : aW pg n = false := by simp [aW, d]
 exact ⟨_, ⟨by simp [aO, qV, d], by rw [fI, c, Qab (by decide)]⟩, IO⟩;have d : jr n = true := by grind
 obtain ⟨i, a, e⟩ := kT d;have f := Dw (pg := pg) (sp := pg.flatMap g7) (i := i) (by omega);have k : aW pg n = decide (eh pg i ≠ (0, 0)) := by grind [aW]
 refine aa (fN zk gO rfl rfl a e (by first | exact Qac _ | rfl)) ?_;refine ac rfl (cg nj rfl (cJ (vs := [kz (eh pg i)]) f rfl 0 _ rfl)) ?_;refine ac rfl (qk rfl) (aP (aH ?_));refine aD rfl (fun l => ?_) fun l => ?_;have c : aW pg n = false := by grind
 refine aw ?_;refine ae ?_;exact ⟨_, ⟨by simp [aO, qV, d, c], by rw [fI, c, Qab (by decide)]⟩, IO⟩;have c : aW pg n = true := by grind
 refine aw ?_;refine aa (fN zk gO rfl rfl a e (by first | exact Qac _ | rfl)) ?_;refine av (du (by grind) rfl) ?_;refine aa (fN Gc pZ rfl rfl a e (by first | exact Qac _ | rfl)) ?_;refine av (iK (by rw [Qam, Qae, Qav, cQ uu]; omega) (a1Y g e)) ?_;refine ae ?_;rw [show fI pg n = pg.set i (0, 0) by rw [fI, Qad c, a, Qaf]];exact ⟨_, ⟨by simp [aO, qV, d, c], rfl⟩, IO⟩
theorem Bj {fr pg va a} : jt fr pg va a = true ↔ eM fr.length pg a (va / 1024) = true ∧ od (ej fr pg a (va / 1024)) = 0 := by simp [jt]
structure WkOkM (fr : List aE) (pg : List Pl) (root : Int) (va : Nat) : Prop where
  lim : va < 16384
  rb : jt fr pg va root = true
  lt : eM fr.length pg (eZ fr pg va root) (va / 64) = true
  eq : cy fr pg root va = ⟨oe (ej fr pg (eZ fr pg va root) (va / 64)), oi (ej fr pg (eZ fr pg va root) (va / 64)), oj (ej fr pg (eZ fr pg va root) (va / 64)), 0, root, eZ fr pg va root⟩
  lf : ny (ej fr pg (eZ fr pg va root) (va / 64)) = 0
theorem Bl {fr pg root va} (h : (cy fr pg root va).fault = 0) : WkOkM fr pg root va := by
 unfold cy at h;by_cases c : va < 16384;rw [Qad c] at h;by_cases a : jt fr pg va root = true;rw [Qad a] at h;have d := Bj.1 a;simp only [fV, pP] at h;by_cases b : eM fr.length pg (eZ fr pg va root) (va / 64) = true;rw [Qad b] at h;refine ⟨c, a, b, ?_, h⟩;rw [cy, Qad c, Qad a];simp only [fV, pP];rw [Qad b, kV, Qad d.1];simp only [nE];rw [show ny (ej fr pg (eZ fr pg va root) (va / 64)) = 0 from h];grind;rw [Qab a] at h;simp only [fV, kV] at h;by_cases b : eM fr.length pg root (va / 1024) = true;rw [Qad b] at h;exact absurd (Bj.2 ⟨b, h⟩) a;grind;grind [fV]
def yz (fr : List aE) (pg : List Pl) (fr' : List aE) (pg' : List Pl) (t : Int) : Prop := ∀ i, eM fr'.length pg' t i = eM fr.length pg t i ∧ ej fr' pg' t i = ej fr pg t i
theorem a1Z {fr fr' pg pg' root va} (h : WkOkM fr pg root va) (a : yz fr pg fr' pg' root) (b : yz fr pg fr' pg' (eZ fr pg va root)) : cy fr' pg' root va = cy fr pg root va := by
 have c : eZ fr' pg' va root = eZ fr pg va root := by unfold eZ; rw [(a _).1, (a _).2]
 have d : jt fr' pg' va root = jt fr pg va root := by unfold jt; rw [(a _).1, (a _).2]
 have e : ∀ s, kV fr' pg' va root s = kV fr pg va root s := fun s => by unfold kV; rw [(a _).1, (a _).2]
 rw [cy, cy, Qad h.lim, Qad h.lim, d, h.rb, Qad rfl, Qad rfl];simp only [fV];rw [c, e];unfold pP;rw [(b _).1, (b _).2]
theorem KY {t i j} (h : j < 4) : (64 * t + 4 * (i % 16) + j) / 64 = t := by omega
theorem EW {fr : List aE} {pg t i} (h : eM fr.length pg t i = true) : aW pg t = true := by
 obtain ⟨b, a⟩ := qD.1 h;obtain ⟨k, rfl⟩ : ∃ k : Nat, t = (k : Int) := ⟨t.toNat, by omega⟩
 have := (ux.1 a).2 0 (by decide);rw [show j4 (gE (k : Int) i + 0) = (k : Int) by rw [show gE (k : Int) i = 64 * k + 4 * (i % 16) from rfl, j4, KY (by decide)]] at this;exact (xI.1 this).1
theorem EX {fr fr' pg pg' t} (m : fr'.length = fr.length) (q : aW pg' t = aW pg t) (g : bJ pg' t = bJ pg t) (r : aW pg t = true → ∀ o : Nat, o < 64 → kx fr' (bJ pg t).1 o 1 = kx fr (bJ pg t).1 o 1) : yz fr pg fr' pg' t := by
 intro i;by_cases s : 0 ≤ t ∧ t < 8
 · obtain ⟨k, rfl⟩ : ∃ k : Nat, t = (k : Int) := ⟨t.toNat, by omega⟩
   have f : gE (k : Int) i = 64 * k + 4 * (i % 16) := rfl;have c : ∀ j, j < 4 → j4 (gE (k : Int) i + j) = (k : Int) := fun j a => by
    rw [f, j4, KY a]
   have h : jd fr'.length pg' (gE (k : Int) i) 4 = jd fr.length pg (gE (k : Int) i) 4 := by
    have e : ∀ j, j < 4 → jE fr'.length pg' (j4 (gE (k : Int) i + j)) = jE fr.length pg (j4 (gE (k : Int) i + j)) := fun j a => by
     rw [c j a, jE, jE, q, g, m]
    unfold jd;congr 1;apply Qaz.2;unfold oR;constructor;grind;grind
   have l : eM fr'.length pg' (k : Int) i = eM fr.length pg (k : Int) i := by grind [eM]
   refine ⟨l, ?_⟩;unfold ej;rw [l];by_cases b : eM fr.length pg (k : Int) i = true
   case neg => rw [Qab b, Qab b]
   have u : iq fr' pg' (gE (k : Int) i) 4 = iq fr pg (gE (k : Int) i) 4 := by
    unfold iq;apply List.map_congr_left;intro j a;have a := QbB.1 a;unfold pO nB;rw [c j a, g];exact r (EW b) _ (Qcb _ (by decide))
   rw [u]
 have d : ∀ n p, eM n p t i = false := fun n p => by unfold eM; rw [Qal s, QcR]
 refine ⟨by rw [d, d], ?_⟩;unfold ej; rw [d, d, Qab (by decide), Qab (by decide)]
theorem a16 {fr f f' off w o k x} (h : f' ≠ f) : kx (g6 fr f off w x) f' o k = kx fr f' o k := by
 unfold g6;split
 rename_i a
 simp only [lm, Qar] at a;obtain ⟨i, rfl, b⟩ := qB a.1;unfold kx;rw [Qam];split;grind [qB];rfl;rfl
structure LOk (fr : List aE) (pg : List Pl) (d : Nat) (x : Ln) : Prop where
  own : (0 ≤ x.rt ∧ x.rt < 8) ∧ (0 ≤ x.lf ∧ x.lf < 8)
  at_ : aW pg x.e.1 = true ∧ (bJ pg x.e.1).1 = x.e.2.1
  al : ∀ k, jD k = true → eQ x.e.2.2 (iT k) = true → e6 pg x.e.1 k = 0
  r : 0 ≤ x.e.2.2 ∧ x.e.2.2 < 16
  wk : Nat.testBit d x.rt.toNat = false → Nat.testBit d x.lf.toNat = false → ∀ va, va < 16384 → ((va / 64 : Nat) : Int) = x.k.2 → WkOkM fr pg x.k.1 va ∧ x.k.1 = x.rt ∧ eZ fr pg va x.k.1 = x.lf ∧ (cy fr pg x.k.1 va).on = true ∧ (cy fr pg x.k.1 va).p = x.e.1 ∧ ∀ c, c = 1 ∨ c = 2 ∨ c = 4 ∨ c = 8 → eQ x.e.2.2 c = true → eQ (cy fr pg x.k.1 va).r c = true
theorem a17 {pg pg' n} (b : aW pg n = true) (a : aW pg' n = true) (c : bJ pg' n = bJ pg n) k : e6 pg' n k = e6 pg n k := by
 grind [bJ, e6]
theorem LOk.move {fr fr' pg pg' d d' x} (h : LOk fr pg d x) (l : aW pg' x.e.1 = true) (m : bJ pg' x.e.1 = bJ pg x.e.1)
    (n : ∀ t, t = x.rt ∨ t = x.lf → Nat.testBit d' t.toNat = false → Nat.testBit d t.toNat = false ∧ (aW pg t = true → yz fr pg fr' pg' t)) : LOk fr' pg' d' x := by
 refine ⟨h.own, ⟨l, by rw [m]; exact h.at_.2⟩, fun k b f => ?_, h.r, fun s u o g b => ?_⟩;rw [a17 h.at_.1 l m]; exact h.al k b f;obtain ⟨v, w⟩ := n x.rt (.inl rfl) s;obtain ⟨y, z⟩ := n x.lf (.inr rfl) u;obtain ⟨a, i, j, A, B, C⟩ := h.wk v y o g b;have e := a1Z a (by rw [i]; exact w (by rw [← i]; exact EW (Bj.1 a.rb).1)) (by rw [j]; exact z (by rw [← j]; exact EW a.lt));have p : (cy fr' pg' x.k.1 o).fault = 0 := by rw [e, a.eq]
 refine ⟨Bl p, i, ?_, by rw [e]; exact A, by rw [e]; exact B, fun c D f => by rw [e]; exact C c D f⟩;have q := (Bl p).eq;rw [e, a.eq] at q;have := Qak WS.leaf q;rw [← j]; exact this.symm
theorem LOk.clean {fr pg d x} (h : LOk fr pg d x) (a : ∀ n ∈ js d 12, x.thr n = false) : LOk fr pg 0 x := by
 refine ⟨h.own, h.at_, h.al, h.r, fun _ _ => h.wk ?_ ?_⟩;rw [← Qat]; intro q;have := a x.rt.toNat (by rw [js, QaC, QbB]; exact ⟨by have := h.own; omega, q⟩);rw [← Qat, tz] at this;exact this (.inl (by have := h.own; omega));rw [← Qat]; intro q;have := a x.lf.toNat (by rw [js, QaC, QbB]; exact ⟨by have := h.own; omega, q⟩);rw [← Qat, tz] at this;exact this (.inr (by have := h.own; omega))
theorem LOk.nar {fr pg d x} (h : LOk fr pg d x) : LOk fr pg d x.nar := by
 have m : ∀ c, c = 1 ∨ c = 2 ∨ c = 4 ∨ c = 8 → eQ x.nar.e.2.2 c = true → eQ x.e.2.2 c = true := fun c a b => by
  obtain ⟨n, g⟩ : ∃ n : Nat, x.e.2.2 = (n : Int) := ⟨x.e.2.2.toNat, by have := h.r; omega⟩
  have i : n < 16 := by have := h.r; omega
  have o : x.nar.e.2.2 = iA x.e.2.2 := rfl;rw [o, g] at b;rw [g];have j : ∀ n : Nat, n < 16 → ∀ c : Int, c = 1 ∨ c = 2 ∨ c = 4 ∨ c = 8 → eQ (iA (n : Int)) c = true → eQ (n : Int) c = true := by
   intro n g c a;have : n = 0 ∨ n = 1 ∨ n = 2 ∨ n = 3 ∨ n = 4 ∨ n = 5 ∨ n = 6 ∨ n = 7 ∨ n = 8 ∨ n = 9 ∨ n = 10 ∨ n = 11 ∨ n = 12 ∨ n = 13 ∨ n = 14 ∨ n = 15 := by omega
   rcases this with rfl | rfl | rfl | rfl | rfl | rfl | rfl | rfl | rfl | rfl | rfl | rfl | rfl | rfl | rfl | rfl <;> rcases a with rfl | rfl | rfl | rfl <;> decide
  exact j n i c a b
 refine ⟨h.own, h.at_, fun k f b => h.al k f (m _ ?_ b), ?_, fun p q s l f => ?_⟩;unfold iT;have := Qas f;rcases this with rfl | rfl | rfl;omega;omega;omega;show 0 ≤ iA x.e.2.2 ∧ iA x.e.2.2 < 16;have := h.r;unfold iA; split
 rename_i t
 have := Qas t;omega;exact h.r;obtain ⟨u, v, w, y, z, A⟩ := h.wk p q s l f;exact ⟨u, v, w, y, z, fun c a b => A c a (m c a b)⟩
structure PlOk (n : Nat) (pg : List Pl) : Prop where
  rng : ∀ t, aW pg t = true → (bJ pg t).1 < (n : Int)
  inj : ∀ s t, aW pg s = true → aW pg t = true → (bJ pg s).1 = (bJ pg t).1 → s = t
structure MOk (fr : List aE) (pg : List Pl) (d : Nat) (L : List Ln) (TL : List It) : Prop where
  F : cC fr
  dl : d < 4096
  P : Pgs pg
  pl : PlOk fr.length pg
  ti : TI L TL
  ln : ∀ x ∈ L, LOk fr pg d x
theorem MOk.save {fr pg d d' L TL} (h : MOk fr pg d L TL) {p} (i : aW pg p = true) off w x (b : d' < 4096)
    (hk : ∀ t, Nat.testBit d' t = false → Nat.testBit d t = false) (c : ∀ y ∈ L, ∀ t, t = y.rt ∨ t = y.lf → Nat.testBit d' t.toNat = false → t ≠ p) : MOk (g6 fr (bJ pg p).1 off w x) pg d' L TL := by
 refine ⟨A7 h.F, b, h.P, by rw [xA]; exact h.pl, h.ti, fun y f => ?_⟩;have a := h.ln y f;by_cases j : Nat.testBit d' y.rt.toNat = false ∧ Nat.testBit d' y.lf.toNat = false;refine a.move a.at_.1 rfl fun t k g => ⟨hk _ g, fun _ => ?_⟩
 refine EX xA rfl rfl fun q o n => ?_;apply a16;intro e;exact c y f t k g (h.pl.inj _ _ q i e);refine ⟨a.own, a.at_, a.al, a.r, fun l m => absurd ⟨l, m⟩ j⟩
abbrev cX (pv bt bs : Nat) : Obj := ag [.pointer (some ⟨pv, 0, none⟩), .pointer (some ⟨bt, 0, none⟩), .pointer (some ⟨bs, 0, none⟩)] 325
theorem yA bm pv bt bs : sQ W0 198 [pQ bm] (pt bm (cX pv bt bs) :: R) (.bool false) (pt bm (cX pv bt bs) :: R) := by
 refine am func198 ntmps198 ?_;refine dj rfl rfl rfl (fun a => ?_) fun a => ?_;cases a;refine aw ?_;exact ae ap
def nO (ks : List dA) (T : List It) : List It := ks.foldl (fun T k => jZ k T) T
theorem KZ {a} : ∀ {T : List It} {y : It}, y ∈ nO a T → y ∈ T ∧ y.key ∉ a := by
 induction a with
 | nil => intro T y h; exact ⟨h, by simp⟩
 | cons k a b =>
  intro T y h;obtain ⟨c, d⟩ := b (T := jZ k T) h;obtain ⟨e, f⟩ := tx.1 c;refine ⟨e, fun q => ?_⟩;rcases QaQ.1 q with q | q;exact f q;exact d q
theorem EY {ks} : ∀ {T : List It}, (nO ks T).length ≤ T.length := by
 induction ks with
 | nil => intro T; exact Qao _
 | cons k ks ih => intro T; exact QaN (ih (T := jZ k T)) (B6 k T)
theorem a18 ks k T : nO (ks ++ [k]) T = jZ k (nO ks T) := by simp [nO, List.foldl_append]
theorem L0 bm pv bt bs its tr tw now T (hR : Rep its now T) (hT : T.length ≤ 100) a c ks (hk : ks.length ≤ 1000) : sP W0 200 [pQ bm, .slice a ks.length c] (pt bm (cX pv bt bs) :: aZ bt (its, [tr, tw, .bool true]) :: osl 380 2 (.slice a ks.length c) (ks.flatMap iz) :: R) (fun v B => v = .tuple #[] ∧ ∃ its', B = pt bm (cX pv bt bs) :: aZ bt (its', [tr, tw, .bool true]) :: osl 380 2 (.slice a ks.length c) (ks.flatMap iz) :: R ∧ Rep its' now (nO ks T)) := by
 refine am func200 ntmps200 ?_;refine d7 (fun X : Nat × List It => X.1 ≤ ks.length ∧ Rep X.2 now (nO (ks.take X.1) T)) (fun X => [(0, pQ bm), (6, .slice a ks.length c), (7, iQ (ks.length : Nat)), (8, iQ X.1)]) (fun X => pt bm (cX pv bt bs) :: aZ bt (X.2, [tr, tw, .bool true]) :: osl 380 2 (.slice a ks.length c) (ks.flatMap iz) :: R) (fun X => ks.length - X.1) (0, its) ?_ ?_;exact ⟨QaK _, hR⟩;intro ⟨i, b⟩ ⟨q, h⟩;dsimp only at q h ⊢;refine aw ?_;refine ai (fun r => ?_) fun r => ?_;have d : i < ks.length := by omega
 refine mH (E := 380) (sz := 2) (a := a) (c := c) (n := ks.length) iz ks (fun _ => rfl) (by decide) rfl (fun s => ?_);obtain ⟨g, o, j, p⟩ := s.at_ d;obtain ⟨k, e⟩ : ∃ k, ks[i] = k := ⟨_, rfl⟩
 have t : ks.take (i + 1) = ks.take i ++ [k] := by rw [Qap d, e]
 have u := EY (ks := ks.take i) (T := T);rw [e] at p;refine aw ?_;refine aa (eR Gf so rfl j rfl rfl d (by first | exact Qac _ | rfl)) ?_;refine aa (dt p.weak) ?_;refine bi fun w => ?_;refine av aB ?_;refine bc [bm, w] 6 fun l => ?_;refine aj 0 5 l ?_;refine bX 5 (ao O7 (EM bt b tr now (nO (ks.take i) T) k h (by omega) tw)) ?_; clear l;rintro _ y ⟨rfl, f, m, x⟩;subst m;refine ⟨aV, fun l => ?_⟩;refine aK ?_;refine aa co ?_;refine bM (i + 1, f) ?_;grind [a18];refine bK (.inr rfl) .nil ?_;obtain rfl : i = ks.length := by omega
 rw [QbH] at h;exact ⟨_, ⟨rfl, b, rfl, h⟩, IO⟩
@[reducible] def asV (bm : Nat) (on : Bool) (root : Int) (user : Bool) (va : Nat) (kind : Int) : List Value := [.pointer (some ⟨bm, 0, none⟩), .bool on, .int .i64 root, .bool user, .int .u32 va, .int .i64 kind]
abbrev jv (bm : Nat) (on : Bool) (root : Int) (user : Bool) (va : Nat) (kind : Int) : Obj := ag (asV bm on root user va kind) 420
def e7 (root : Int) (va : Nat) : dA := (root, ((va / 64 : Nat) : Int))
theorem oz ba bm on root user va (b : va < 4294967296) kind : sQ W0 344 [pQ ba] (pt ba (jv bm on root user va kind) :: R) (.agg (iz (e7 root va)).toArray) (pt ba (jv bm on root user va kind) :: R) := by
 refine am func344 ntmps344 ?_;refine bi fun c => ?_;refine bc [ba] 13 fun a => ?_;refine aj 0 9 a ?_;refine az 9 a (lZ rfl rfl (by decide) ((Qak (IntKind.wrap .u32) (oN va 64)).trans (cZ (by omega)))) ?_;refine az 10 a (bD (bS (by omega))) ?_;refine aj 11 1 a ?_;refine cj 12 aB fun a => ?_;refine aK ?_;exact aS (.cons (aX G4 so rfl rfl) .nil) ap
def mi (e : jY) (kind : Int) (user : Bool) : Bool := jD kind && (eQ e.2.2 (iT kind) && (!user || eQ e.2.2 8)) && true
theorem wx ba bm on root user va kind (e : jY) : sQ W0 345 [pQ ba, .agg (pi e).toArray] (pt ba (jv bm on root user va kind) :: R) (.bool (mi e kind user)) (pt ba (jv bm on root user va kind) :: R) := by
 refine am func345 ntmps345 ?_;refine bA fun b => ?_;refine bc [b, ba] 16 fun a => ?_;refine aj 0 14 a ?_;refine bG 14 (aC call342 (I3 true e.2.2 e.1 kind user)) fun a => ?_;refine aj 15 1 a ?_;refine aK ?_;exact ae ap
@[reducible] def Bm (p f : Int) (o : Nat) (fast : Bool) : List Value := [.int .i64 p, .int .i64 f, .int .i64 (o : Nat), .bool fast]
theorem wy ba bm on root user va (b : va < 4294967296) kind (e : jY) fast : sQ W0 346 [pQ ba, .agg (pi e).toArray, .bool fast] (pt ba (jv bm on root user va kind) :: R) (.agg (Bm e.1 e.2.1 (va % 64) fast).toArray) (pt ba (jv bm on root user va kind) :: R) := by
 refine am func346 ntmps346 ?_;refine bA fun c => ?_;refine bi fun d => ?_;refine bc [c, ba] 13 fun a => ?_;refine aj 0 8 a ?_;refine az 8 a (eT rfl rfl (IR b)) ?_;refine az 9 a (bD (bS (by omega))) ?_;refine aj 10 2 a ?_;refine cj 12 aB fun a => ?_;refine aK ?_;exact aS (.cons (aX dS dG rfl rfl) .nil) ap
theorem L3 (l : List Ln) : l.flatMap uR = (l.map Ln.k).flatMap iz := by rw [List.flatMap_map]
theorem MOk.drop {fr pg d L T} (h : MOk fr pg d L T) p : MOk fr pg d (L.filter fun x => !p x) (nO ((L.filter p).map Ln.k) T) :=
  ⟨h.F, h.dl, h.P, h.pl, h.ti.drop p fun y b => by
 obtain ⟨c, f⟩ := KZ b
 exact ⟨c, fun x a g e => f (Qbc.2 ⟨x, QaC.2 ⟨a, g⟩, e.symm⟩)⟩, fun x a => h.ln x (QaC.1 a).1⟩
theorem MOk.clean {fr pg d L T} (h : MOk fr pg d L T) (b : ∀ x ∈ L, ∀ n ∈ js d 12, x.thr n = false) : MOk fr pg 0 L T :=
  ⟨h.F, by decide, h.P, h.pl, h.ti, fun x a => (h.ln x a).clean (b x a)⟩
theorem a2a l : vQ l = l.flatMap fun n => [xH n] := by
 induction l with
 | nil => rfl
 | cons n l a => rw [QaX, ← a]; rfl
theorem L5 bm pv bt bs ps pm d its tr tw now room T L (hR : Rep its now T) (hT : T.length ≤ room) (hr : room ≤ 4) (hd : d < 4096) (I : List Ln → List It → Prop) (hIl : ∀ L T, I L T → L.length ≤ 1000) (hId : ∀ L T p, I L T → I (L.filter fun x => !p x) (nO ((L.filter p).map Ln.k) T)) (h : I L T) : sP W0 199 [pQ bm] (pt bm (cX pv bt bs) :: aZ bt (its, [tr, tw, .bool true]) :: bQ bs L :: pt pv (cB ps pm d) :: R) (fun v B => v = .tuple #[] ∧ ∃ its' T' L', B = pt bm (cX pv bt bs) :: aZ bt (its', [tr, tw, .bool true]) :: bQ bs L' :: pt pv (cB ps pm 0) :: R ∧ Rep its' now T' ∧ T'.length ≤ room ∧ I L' T' ∧ (∀ x ∈ L', ∀ n ∈ js d 12, x.thr n = false) ∧ (∀ x ∈ L', x ∈ L) ∧ (js d 12 = [] → L' = L)) := by
 obtain ⟨ds, hds⟩ : ∃ l, js d 12 = l := ⟨_, rfl⟩
 have hdl : ds.length ≤ 12 := by grind [ID]
 refine am func199 ntmps199 ?_;refine aG rfl (ao call135 (IE pv ps pm d hd)) ?_;rintro _ B_ ⟨ad, cd, rfl, hB_⟩;subst hB_;rw [hds];refine aw ?_;refine d7 (fun X : Nat × List It × List It × List Ln => X.1 ≤ ds.length ∧ Rep X.2.1 now X.2.2.1 ∧ X.2.2.1.length ≤ room ∧ I X.2.2.2 X.2.2.1 ∧ (∀ x ∈ X.2.2.2, ∀ n ∈ ds.take X.1, x.thr ((n : Nat) : Int) = false) ∧ (∀ x ∈ X.2.2.2, x ∈ L) ∧ (X.1 = 0 → X.2.2.2 = L)) (fun X => [(0, pQ bm), (8, .slice ad ds.length cd), (9, iQ (ds.length : Nat)), (10, iQ X.1)]) (fun X => pt bm (cX pv bt bs) :: aZ bt (X.2.1, [tr, tw, .bool true]) :: bQ bs X.2.2.2 :: pt pv (cB ps pm 0) :: osl 3 1 (.slice ad ds.length cd) (vQ ds) :: R) (fun X => ds.length - X.1) (0, its, T, L) ?_ ?_;grind;intro ⟨i, its1, T1, L1⟩ ⟨hi, hR1, hT1, h1, hc1, hs1, hz1⟩;dsimp only at hi hR1 hT1 h1 hc1 hs1 hz1 ⊢;refine aw ?_;refine ai (fun c1 => ?_) fun c1 => ?_;have hi1 : i < ds.length := by omega
 refine mH (E := 3) (sz := 1) (a := ad) (c := cd) (n := ds.length) (fun n => [xH n]) ds (fun _ => rfl) (by decide) (a2a ds) (fun hs => ?_);obtain ⟨g, o, hga, hc⟩ := hs.at_ hi1;obtain ⟨q, hq⟩ : ∃ q, ds[i] = q := ⟨_, rfl⟩
 have htk : ds.take (i + 1) = ds.take i ++ [q] := by rw [Qap hi1, hq]
 have hll := hIl L1 T1 h1;obtain ⟨ks, hks⟩ : ∃ ks, (L1.filter fun x => x.thr (q : Int)).map Ln.k = ks := ⟨_, rfl⟩
 have hkl : (L1.filter fun x => x.thr (q : Int)).length = ks.length := by grind
 have hkn : ks.length ≤ 1000 := by grind
 have hdr := hId L1 T1 (fun x => x.thr (q : Int)) h1;rw [hks] at hdr;rw [hq] at hc;refine aw ?_;refine aa (eR fZ aR rfl hga rfl rfl hi1 (by first | exact Qac _ | rfl)) ?_;refine aa (aF (bF.weak hc 0 _ rfl)) ?_;refine aG rfl (ao call274 (a1D bs L1 (by omega) (q : Int))) ?_;rintro _ B_ ⟨aw, cw, rfl, hB_⟩;subst hB_;rw [L3, hks, hkl];refine aG rfl (cK call200 (L0 bm pv bt bs its1 tr tw now T1 hR1 (by omega) aw cw ks hkn)) ?_;rintro _ B_ ⟨rfl, its2, hB_, hR2⟩;subst hB_;refine au 4 ?_;refine aa co ?_;refine bM (i + 1, its2, nO ks T1, L1.filter fun x => !x.thr (q : Int)) ?_;grind [QaN, EY];refine bK (.inr rfl) .nil ?_;obtain rfl : i = ds.length := by omega
 rw [QbH] at hc1;exact ⟨_, ⟨rfl, its1, T1, L1, rfl, hR1, hT1, h1, hc1, hs1, fun q => hz1 (by rw [q]; rfl)⟩, IO⟩
theorem L6 bm pv bt bs ps pm d its tr tw now room T L fr pg (f : Rep its now T) (g : T.length ≤ room) (i : room ≤ 4) (h : MOk fr pg d L T) : sP W0 199 [pQ bm] (pt bm (cX pv bt bs) :: aZ bt (its, [tr, tw, .bool true]) :: bQ bs L :: pt pv (cB ps pm d) :: R) (fun v B => v = .tuple #[] ∧ ∃ a e c, B = pt bm (cX pv bt bs) :: aZ bt (a, [tr, tw, .bool true]) :: bQ bs c :: pt pv (cB ps pm 0) :: R ∧ Rep a now e ∧ e.length ≤ room ∧ MOk fr pg 0 c e ∧ (∀ x ∈ c, x ∈ L) ∧ (js d 12 = [] → c = L)) :=
  iH (L5 bm pv bt bs ps pm d its tr tw now room T L f g i h.dl (MOk fr pg d) (fun L T h => QaN h.ti.len (by decide)) (fun L T p h => h.drop p) h) fun v B j => by
 obtain ⟨rfl, b, k, l, rfl, m, n, o, q, r⟩ := j;exact ⟨_, ⟨rfl, b, k, l, rfl, m, n, o.clean q, r⟩, ent_refl⟩
def mj : Option Ln → jY
 | none => (0, 0, 0)
 | some x => x.e
theorem tB k L : yy k L = .tuple #[.agg (pi (mj (l5 k L))).toArray, .bool (l5 k L).isSome] := by
 unfold yy;cases l5 k L <;> rfl
theorem TI.sub' {L T T'} (h : TI L T) (a : ∀ y ∈ T', y ∈ T) : TI L T' := ⟨h.keys, h.len, h.nowr, fun y b => h.sub y (a y b)⟩
theorem EZ bm pv bt bs its tr tw now room T L (N : Rep its now T) (Z : T.length ≤ room) (hr : room ≤ 4) (hl : L.length ≤ 32) : sP W0 390 [pQ bm] (pt bm (cX pv bt bs) :: aZ bt (its, [tr, tw, .bool true]) :: bQ bs L :: R) (fun v B => v = .tuple #[] ∧ ∃ m F, B = pt bm (cX pv bt bs) :: aZ bt (m, [tr, tw, .bool true]) :: bQ bs L :: R ∧ Rep m now F ∧ F.length ≤ room ∧ ∀ y ∈ F, y ∈ T ∧ (l5 y.key L).isSome = true) := by
 refine am func390 ntmps390 ?_;refine aG rfl (ao call410 (a1C bt its tr tw now T N (by omega))) ?_;rintro _ D ⟨u, w, rfl, d⟩;subst d;refine aw ?_;refine d7 (fun X : Nat × List It × List It => X.1 ≤ T.length ∧ Rep X.2.1 now X.2.2 ∧ X.2.2.length ≤ room ∧ ∀ y ∈ X.2.2, y ∈ T ∧ (y ∈ T.take X.1 → (l5 y.key L).isSome = true)) (fun X => [(0, pQ bm), (10, .slice u T.length w), (11, iQ (T.length : Nat)), (12, iQ X.1)]) (fun X => pt bm (cX pv bt bs) :: aZ bt (X.2.1, [tr, tw, .bool true]) :: bQ bs L :: osl 387 5 (.slice u T.length w) (T.flatMap uT) :: R) (fun X => T.length - X.1) (0, its, T) ?_ ?_;grind;intro ⟨i, e, p⟩ ⟨O, h, j, r⟩;dsimp only at O h j r ⊢;refine aw ?_;refine aD rfl (fun P => ?_) fun P => ?_;refine au 2 ?_;refine dw (fun X : List It × List It => Rep X.1 now X.2 ∧ X.2.length ≤ room ∧ ∀ y ∈ X.2, y ∈ T ∧ (y ∈ T.take (i + 1) → (l5 y.key L).isSome = true)) (fun X => [(0, pQ bm), (10, .slice u T.length w), (11, iQ (T.length : Nat)), (12, iQ i)]) (fun X => pt bm (cX pv bt bs) :: aZ bt (X.1, [tr, tw, .bool true]) :: bQ bs L :: osl 387 5 (.slice u T.length w) (T.flatMap uT) :: R) ?_ ?_;refine au 2 ?_;have s : i < T.length := by omega
 refine mH (E := 387) (sz := 5) (a := u) (c := w) (n := T.length) uT T a1B (by decide) rfl (fun Q => ?_);obtain ⟨g, o, G, K⟩ := Q.at_ s;obtain ⟨x, M⟩ : ∃ x, T[i] = x := ⟨_, rfl⟩
 have A : T.take (i + 1) = T.take i ++ [x] := by rw [Qap s, M]
 rw [M] at K;obtain ⟨gt, C⟩ : ∃ o, l5 x.key L = o := ⟨_, rfl⟩
 refine aw ?_;refine aa (eR Gi sr rfl G rfl rfl s (by first | exact Qac _ | rfl)) ?_;refine aa (dt K.weak) ?_;refine bi fun H => ?_;refine av aB ?_;refine bc [bm, H] 13 fun b => ?_;refine aj 0 5 b ?_;refine az 5 b (dt (uQ (us := iz x.key) (ws := [iQ x.ep, iQ x.ef, iQ x.er]) (j9 (k := 1) rfl) rfl)) ?_;refine fP (is := [6, 10]) (by kernel_rfl) rfl ⟨?_, ?_, trivial⟩;refine dL (ao vn (tA bs L (by omega) x.key)) ?_; clear b;rintro _ D ⟨rfl, d⟩;subst d;rw [tB, C];refine ⟨aV, fun b => ?_⟩;refine aj 7 3 b ?_;refine bX 10 (dQ oJ) ?_; clear b;rintro _ _ ⟨S, rfl, rfl⟩;refine ⟨aV, fun b => ?_⟩;refine cj 11 aB fun b => ?_;refine aj 12 1 b ?_;refine aK ?_;refine ai (fun I => ?_) fun I => ?_;refine bc [bm, H] 7 fun b => ?_;refine aj 0 5 b ?_;refine az 5 b (dt (uQ (us := iz x.key) (ws := [iQ x.ep, iQ x.ef, iQ x.er]) (j9 (k := 1) rfl) rfl)) ?_;refine bX 6 (ao O7 (EM bt e tr now p x.key h (by omega) tw)) ?_; clear b;rintro _ D ⟨rfl, f, d, l⟩;subst d;refine ⟨aV, fun b => ?_⟩;refine aK ?_;refine bY (f, jZ x.key p) ?_;refine ⟨l, QaN (B6 _ _) j, fun y t => ?_⟩;obtain ⟨J, U⟩ := tx.1 t;refine ⟨(r y J).1, fun q => ?_⟩;rw [A] at q;rcases QaZ.1 q with z | z;grind;grind;refine bY (e, p) ?_;grind;skip;refine dL (dQ oJ) ?_; clear b;rintro _ _ ⟨S, rfl, rfl⟩;refine ⟨aV, fun b => ?_⟩;refine bX 6 (ao vn (tA bs L (by omega) x.key)) ?_; clear b;rintro _ D ⟨rfl, d⟩;subst d;rw [tB, C];refine ⟨aV, fun b => ?_⟩;refine aj 7 3 b ?_;refine cj 11 aB fun b => ?_;refine aj 12 1 b ?_;refine aK ?_;refine ai (fun I => ?_) fun I => ?_;refine bc [bm, H] 7 fun b => ?_;refine aj 0 5 b ?_;refine az 5 b (dt (uQ (us := iz x.key) (ws := [iQ x.ep, iQ x.ef, iQ x.er]) (j9 (k := 1) rfl) rfl)) ?_;refine bX 6 (ao O7 (EM bt e tr now p x.key h (by omega) tw)) ?_; clear b;rintro _ D ⟨rfl, f, d, l⟩;subst d;refine ⟨aV, fun b => ?_⟩;refine aK ?_;refine bY (f, jZ x.key p) ?_;refine ⟨l, QaN (B6 _ _) j, fun y t => ?_⟩;obtain ⟨J, U⟩ := tx.1 t;refine ⟨(r y J).1, fun q => ?_⟩;rw [A] at q;rcases QaZ.1 q with z | z;grind;grind;refine bY (e, p) ?_;grind;intro ⟨f, V⟩ ⟨l, W, Y⟩;refine aw ?_;refine aa co ?_;refine bM (i + 1, f, V) ?_;grind;refine aw ?_;refine bK (.inr rfl) .nil ?_;obtain rfl : i = T.length := by omega
 rw [QbH] at r;exact ⟨_, ⟨rfl, e, p, rfl, h, j, fun y t => ⟨(r y t).1, (r y t).2 (r y t).1⟩⟩, IO⟩
end
end Go.Proofs.YtofillmoflhijaaGreatDoor
