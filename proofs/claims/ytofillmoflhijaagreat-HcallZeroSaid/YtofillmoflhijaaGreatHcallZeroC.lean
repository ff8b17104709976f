/-
  Part 3 of the proof of HcallZero: rules, and walks of functions. Conditions: none.
-/
import Derived.Test.YtofillmoflhijaaGreatHcallZeroB
namespace Go.Proofs.YtofillmoflhijaaGreat
open Go.Proofs.Tryz
set_option linter.unusedSimpArgs false
set_option linter.unusedVariables false
set_option maxRecDepth 20000
set_option linter.defProp false
set_option synthInstance.maxSize 8192
set_option synthInstance.maxHeartbeats 2000000
variable {W0 : World} {R : List HP}
section
open Go.RowKit
theorem qD {A B R1 R2 R3 : List HP} {qs n c g2 : Nat} {a : Option Addr} {vs ys : List Value} {vi : Value} {fr : List bW} {y : bW} [h1 : Tk pt qs A (aw [.slice a n c] 193) R1] [h2 : Tk (osl 174 1) (.slice a n c) R1 (vs ++ [vi]) R2] [h3 : Tk pt g2 R2 (aw ys 5) R3]
    (hvi : vi = .slice (some ⟨g2, 0, none⟩) 64 64) (hy : ys = bU y) (hl : y.length = 64) (hv : vs.length = fr.length) (hn : n = fr.length + 1) [k : Ent R3 ((vs.zip fr).map dN ++ B)] : Ent A (cD qs (fr ++ [y]) :: B) := by
 subst hvi; subst hy
 have e1 : A.Perm (pt qs (aw [.slice a n c] 193) :: osl 174 1 (.slice a n c) (vs ++ [.slice (some ⟨g2, 0, none⟩) 64 64]) :: pt g2 (aw (bU y ++ []) 5) :: R3) := by
  rw [List.append_nil]; exact h1.perm.trans ((h2.perm.trans (h3.perm.cons _)).cons _)
 have e2 : Ent (pt g2 (aw (bU y ++ []) 5) :: R3) (osl 5 1 (.slice (some ⟨g2, 0, none⟩) 64 64) (bU y) :: ((vs.zip fr).map dN ++ B)) := eP (Nat.le_refl _) (by simp only [maxLen]; omega) (by rw [dG, hl]) (by rw [List.append_nil, dG, hl])
 have e3 : ((vs ++ [Value.slice (some ⟨g2, 0, none⟩) 64 64]).zip (fr ++ [y])).map dN = (vs.zip fr).map dN ++ [osl 5 1 (.slice (some ⟨g2, 0, none⟩) 64 64) (bU y)] := by
  rw [List.zip_append hv, List.map_append]; rfl
 have e4 : (osl 5 1 (.slice (some ⟨g2, 0, none⟩) 64 64) (bU y) :: ((vs.zip fr).map dN ++ B)).Perm (((vs ++ [Value.slice (some ⟨g2, 0, none⟩) 64 64]).zip (fr ++ [y])).map dN ++ B) := by
  rw [e3, List.append_assoc]; exact List.perm_middle.symm
 exact (Ent.ofPerm e1).trans ((Ent.cons (Ent.cons (e2.trans (Ent.ofPerm e4)))).trans (ka (vs := vs ++ [.slice (some ⟨g2, 0, none⟩) 64 64]) (by simp [hv]) (by simp [hn])))
theorem zM (W0 : World) (R : List HP) (n : Nat) (h : n ≤ 32) :
    aC Tryz.prog W0 76 [.int .i64 n] R (fun v B => ∃ b, v = .tuple #[.pointer (some ⟨b, 0, none⟩), .int .i64 0] ∧ B = cD b (List.replicate n bT) :: R) := by
 refine aF func76 ntmps76 rfl rfl ?_
 refine ae (ah (aa rfl (ai rfl) (aa rfl (ai rfl) (ag (ab (ae (ae (ah (aa rfl (ac rfl) (aa rfl (aY rfl rfl) (aa rfl (ac rfl) ?_)))))))))))
 refine bA rfl rfl rfl ?_ ?_
 intro g1_3
 omega
 intro g1_3
 refine aa rfl (ac rfl) (ar rfl rfl (aa rfl (cd rfl rfl) (aa rfl (aJ rfl rfl) (ag (ab ?_)))))
 refine ax rfl ?_ ?_
 intro c1
 omega
 intro c1
 refine aB (ab (ae (ah (aa rfl (bQ gX zeroValue193 (aE g6 bP) bO) ?_))))
 refine am rfl (bL rfl) ?_
 rintro _ _ ⟨b1, rfl, rfl⟩
 refine aa rfl (ai rfl) (ag (ab (ae (ae (ah (aa rfl (ai rfl) (ag (ab (b0 ?_)))))))))
 refine cC (fun i : Nat => i ≤ n) (fun i => [(0, .int .i64 n), (4, .pointer (some ⟨b1, 0, none⟩)), (5, .int .i64 i)]) (fun i => cD b1 (List.replicate i bT) :: R) (fun i => n - i) 0 ?_ ?_ ?_ ?_
 exact Nat.zero_le _
 · repeat (first | exact aX | refine aU rfl ?_)
 exact (Ent.cons (fb (B := R))).trans (eE (R := R) (C := [_, _]) ⟨none, 0, [], rfl, rfl⟩)
 intro i hi
 refine ae (ae (ah (aa rfl (ac rfl) (aa rfl (ac rfl) (aa rfl (aY rfl rfl) (ag (ab ?_)))))))
 refine ax rfl ?_ ?_
 intro c5
 refine aB (ab (ae (b0 ?_)))
 refine k0 (qs := b1) fun a c vs hv => ?_
 rw [List.length_replicate] at hv ⊢
 refine cY [] 11 cV rfl aK (fun hS => ?_)
 refine aj 0 rfl rfl (by kernel_rfl) (by kernel_rfl) (by kernel_rfl) rfl hS (ac rfl) ?_
 refine aj 1 rfl rfl (by kernel_rfl) (by kernel_rfl) (by kernel_rfl) rfl hS (ac rfl) ?_
 refine aj 2 rfl rfl (by kernel_rfl) (by kernel_rfl) (by kernel_rfl) rfl hS (aH rfl) ?_
 refine aj 3 rfl rfl (by kernel_rfl) (by kernel_rfl) (by kernel_rfl) rfl hS (ao rfl gX rfl g6 rfl (by first | exact Nat.zero_add _ | rfl)) ?_
 refine iL (is := [4, 5]) (by kernel_rfl) rfl ⟨?_, ?_, trivial⟩
 skip
 refine f8 rfl rfl (eD (ap iG rfl (aA rfl))) rfl ?_; clear hS
 rintro _ _ ⟨rfl, rfl⟩
 refine ⟨aK, fun hS => ?_⟩
 refine bB 5 (by kernel_rfl) rfl rfl (lV (sz := 1) (by_ := 1) (info := Tryz.t5) dE (by kernel_rfl) rfl rfl rfl rfl (by decide) rfl rfl rfl rfl (by decide) (by decide)) rfl ?_; clear hS
 rintro _ _ ⟨b2, rfl, rfl⟩
 refine ⟨aK, fun hS => ?_⟩
 refine bB 6 (by kernel_rfl) rfl rfl (fK gL jB vS rfl rfl rfl rfl rfl (by decide) (by decide)) rfl ?_; clear hS
 rintro _ _ ⟨b3, rfl, rfl⟩
 refine ⟨aK, fun hS => ?_⟩
 refine bB 7 (by kernel_rfl) rfl rfl (dL (sz := 1) (by_ := 24) (info := Tryz.t174) gL (by kernel_rfl) rfl rfl rfl rfl (by decide) rfl rfl dM rfl rfl (by simp only [maxLen]; omega) (by omega)) rfl ?_; clear hS
 rintro _ B_ ⟨a1, c1, rfl, hB_⟩
 obtain rfl := hB_.symm
 refine ⟨aK, fun hS => ?_⟩
 refine aj 8 rfl rfl (by kernel_rfl) (by kernel_rfl) (by kernel_rfl) rfl hS (aH rfl) ?_
 refine aj 9 rfl rfl (by kernel_rfl) (by kernel_rfl) (by kernel_rfl) rfl hS (ao rfl gX rfl g6 rfl (by first | exact Nat.zero_add _ | rfl)) ?_
 refine bB 10 (by kernel_rfl) rfl rfl (ce g6 rfl rfl rfl (Nat.le_of_ble_eq_true rfl) SetL.eq) rfl ?_; clear hS
 rintro _ _ rfl
 refine ⟨aK, fun hS => ?_⟩
 refine cg (by kernel_rfl) ?_; clear hS
 refine bF (ab (ah (aa rfl (ac rfl) ?_)))
 refine aa rfl (bC rfl rfl (by first | exact aW (by omega) | rfl)) ?_
 refine aa rfl (ai rfl) (ag (ab ?_))
 refine cp (i + 1) ?_ ?_ ?_ ?_
 omega
 omega
 · repeat (first | exact aX | refine aU rfl ?_)
 rw [show List.replicate (i + 1) bT = List.replicate i bT ++ [bT] from List.replicate_succ']; exact qD (vs := vs) (n := i + 1) (a := a1) (c := c1) (g2 := b2) (ys := List.replicate (64 * 1) (.int .u8 0)) (y := bT) (vi := .slice (some ⟨b2, 0, none⟩) 64 64) (fr := List.replicate i bT) rfl rfl (by simp [bT]) (by simp [hv]) (by simp)
 skip
 refine f8 rfl rfl (lV (sz := 1) (by_ := 1) (info := Tryz.t5) dE (by kernel_rfl) rfl rfl rfl rfl (by decide) rfl rfl rfl rfl (by decide) (by decide)) rfl ?_; clear hS
 rintro _ _ ⟨b2, rfl, rfl⟩
 refine ⟨aK, fun hS => ?_⟩
 refine iL (is := [4, 6]) (by kernel_rfl) rfl ⟨?_, ?_, trivial⟩
 skip
 refine f8 rfl rfl (eD (ap iG rfl (aA rfl))) rfl ?_; clear hS
 rintro _ _ ⟨rfl, rfl⟩
 refine ⟨aK, fun hS => ?_⟩
 refine bB 6 (by kernel_rfl) rfl rfl (fK gL jB vS rfl rfl rfl rfl rfl (by decide) (by decide)) rfl ?_; clear hS
 rintro _ _ ⟨b3, rfl, rfl⟩
 refine ⟨aK, fun hS => ?_⟩
 refine bB 7 (by kernel_rfl) rfl rfl (dL (sz := 1) (by_ := 24) (info := Tryz.t174) gL (by kernel_rfl) rfl rfl rfl rfl (by decide) rfl rfl dM rfl rfl (by simp only [maxLen]; omega) (by omega)) rfl ?_; clear hS
 rintro _ B_ ⟨a1, c1, rfl, hB_⟩
 obtain rfl := hB_.symm
 refine ⟨aK, fun hS => ?_⟩
 refine aj 8 rfl rfl (by kernel_rfl) (by kernel_rfl) (by kernel_rfl) rfl hS (aH rfl) ?_
 refine aj 9 rfl rfl (by kernel_rfl) (by kernel_rfl) (by kernel_rfl) rfl hS (ao rfl gX rfl g6 rfl (by first | exact Nat.zero_add _ | rfl)) ?_
 refine bB 10 (by kernel_rfl) rfl rfl (ce g6 rfl rfl rfl (Nat.le_of_ble_eq_true rfl) SetL.eq) rfl ?_; clear hS
 rintro _ _ rfl
 refine ⟨aK, fun hS => ?_⟩
 refine cg (by kernel_rfl) ?_; clear hS
 refine bF (ab (ah (aa rfl (ac rfl) ?_)))
 refine aa rfl (bC rfl rfl (by first | exact aW (by omega) | rfl)) ?_
 refine aa rfl (ai rfl) (ag (ab ?_))
 refine cp (i + 1) ?_ ?_ ?_ ?_
 omega
 omega
 · repeat (first | exact aX | refine aU rfl ?_)
 rw [show List.replicate (i + 1) bT = List.replicate i bT ++ [bT] from List.replicate_succ']; exact qD (vs := vs) (n := i + 1) (a := a1) (c := c1) (g2 := b2) (ys := List.replicate (64 * 1) (.int .u8 0)) (y := bT) (vi := .slice (some ⟨b2, 0, none⟩) 64 64) (fr := List.replicate i bT) rfl rfl (by simp [bT]) (by simp [hv]) (by simp)
 skip
 refine f8 rfl rfl (fK gL jB vS rfl rfl rfl rfl rfl (by decide) (by decide)) rfl ?_; clear hS
 rintro _ _ ⟨b3, rfl, rfl⟩
 refine ⟨aK, fun hS => ?_⟩
 refine bB 4 (by kernel_rfl) rfl rfl (eD (ap iG rfl (aA rfl))) rfl ?_; clear hS
 rintro _ _ ⟨rfl, rfl⟩
 refine ⟨aK, fun hS => ?_⟩
 refine bB 7 (by kernel_rfl) rfl rfl (dL (sz := 1) (by_ := 24) (info := Tryz.t174) gL (by kernel_rfl) rfl rfl rfl rfl (by decide) rfl rfl dM rfl rfl (by simp only [maxLen]; omega) (by omega)) rfl ?_; clear hS
 rintro _ B_ ⟨a1, c1, rfl, hB_⟩
 obtain rfl := hB_.symm
 refine ⟨aK, fun hS => ?_⟩
 refine aj 8 rfl rfl (by kernel_rfl) (by kernel_rfl) (by kernel_rfl) rfl hS (aH rfl) ?_
 refine aj 9 rfl rfl (by kernel_rfl) (by kernel_rfl) (by kernel_rfl) rfl hS (ao rfl gX rfl g6 rfl (by first | exact Nat.zero_add _ | rfl)) ?_
 refine bB 10 (by kernel_rfl) rfl rfl (ce g6 rfl rfl rfl (Nat.le_of_ble_eq_true rfl) SetL.eq) rfl ?_; clear hS
 rintro _ _ rfl
 refine ⟨aK, fun hS => ?_⟩
 refine cg (by kernel_rfl) ?_; clear hS
 refine bF (ab (ah (aa rfl (ac rfl) ?_)))
 refine aa rfl (bC rfl rfl (by first | exact aW (by omega) | rfl)) ?_
 refine aa rfl (ai rfl) (ag (ab ?_))
 refine cp (i + 1) ?_ ?_ ?_ ?_
 omega
 omega
 · repeat (first | exact aX | refine aU rfl ?_)
 rw [show List.replicate (i + 1) bT = List.replicate i bT ++ [bT] from List.replicate_succ']; exact qD (vs := vs) (n := i + 1) (a := a1) (c := c1) (g2 := b2) (ys := List.replicate (64 * 1) (.int .u8 0)) (y := bT) (vi := .slice (some ⟨b2, 0, none⟩) 64 64) (fr := List.replicate i bT) rfl rfl (by simp [bT]) (by simp [hv]) (by simp)
 intro c5
 refine bX (bi (bi (bZ (ab (ae (ah (aa rfl (ac rfl) (aa rfl (ai rfl) (aa rfl (ai rfl) (ag (ab (av (au (.inl rfl) (.cons (ak rfl) (.cons (ak rfl) .nil)) ?_)))))))))))))
 have : i = n := by omega
 subst this
 exact ⟨_, ⟨b1, rfl, rfl⟩, inferInstance⟩
def gI (p : Pl) : Value := .bool (decide (p ≠ (0, 0)))
abbrev fF (pg : List Pl) : Obj := aw (pg.map gI ++ pg.flatMap eo) 241
theorem ug {pg : List Pl} {sp : List Value} {i : Nat} (hi : i < pg.length) : ((pg.map gI ++ sp).drop (i * 1)).take 1 = [gI (fA pg i)] := by
 rw [Nat.mul_one, List.drop_append_of_le_length (by simp; omega), ← List.map_drop, List.drop_eq_getElem_cons hi, List.map_cons, List.cons_append, List.take_succ_cons, List.take_zero]
 simp [fA, List.getD, hi]
theorem zN {pg : List Pl} {i : Nat} (h : pg.length = 12) (hi : i < 12) : ((pg.map gI ++ pg.flatMap eo).drop (12 + i * 2)).take 2 = eo (fA pg i) := by
 rw [← List.drop_drop, List.drop_left' (by simpa using h)]
 have := pr (pg := pg) (sp := []) (n := i) (by omega)
 rwa [List.append_nil] at this
theorem uh : ∀ (vs a b : List Value) (off : Nat), setR (a ++ b) (a.length + off) vs = a ++ setR b off vs
 | [], a, b, off => rfl
 | v :: vs, a, b, off => by
  rw [setR, setR, List.set_append_right _ _ (by omega), show a.length + off - a.length = off by omega, show a.length + off + 1 = a.length + (off + 1) by omega, uh vs]
theorem zO {pg : List Pl} {i : Nat} {p : Pl} (h : pg.length = 12) (hi : i < 12) (hp : gC p = true) : setR ((pg.map gI ++ pg.flatMap eo).set (i * 1) (.bool true)) (12 + i * 2) (eo p) = (pg.set i p).map gI ++ (pg.set i p).flatMap eo := by
 have ht : gI p = .bool true := by
  have := jQ.1 hp
  simp only [gI, Value.bool.injEq, decide_eq_true_eq]
  intro e; rw [e] at this; simp at this
 rw [Nat.mul_one, List.set_append_left _ _ (by simp; omega), ← ht, ← List.map_set]
 have e := uh (eo p) ((pg.set i p).map gI) (pg.flatMap eo) (i * 2)
 rw [show ((pg.set i p).map gI).length = 12 by simp [h]] at e
 rw [e]
 have := sW (pg := pg) (sp := []) (n := i) (p := p) (by omega)
 rw [List.append_nil, List.append_nil] at this
 rw [this]
theorem ui (n : Int) : aC Tryz.prog W0 216 [.int .i64 n] R (fun v B => v = .bool (fR n) ∧ B = R) := by
 refine aF func216 ntmps216 rfl rfl ?_
 refine ae (ah (aa rfl (ai rfl) (ag (ab (ae (ah (aa rfl (ac rfl) (aa rfl (cF rfl rfl) (aa rfl (ac rfl) ?_)))))))))
 refine cG rfl rfl rfl ?_ ?_
 intro g1_3
 refine aa rfl (ac rfl) (ar rfl rfl (aa rfl (aY rfl rfl) (aa rfl (aT rfl rfl) (aa rfl (ai rfl) (ag (ab (av (au (.inl rfl) (.cons (ak rfl) .nil) ?_))))))))
 refine ⟨_, ⟨?_, rfl⟩, inferInstance⟩
 refine congrArg Value.bool ?_
 rw [Bool.eq_iff_iff]; simp only [fR, decide_eq_true_eq, Bool.false_eq_true, false_iff]; omega
 intro g1_3
 refine al rfl rfl rfl rfl (aa rfl (aJ rfl rfl) (aa rfl (ai rfl) (ag (ab (av (au (.inl rfl) (.cons (ak rfl) .nil) ?_))))))
 refine ⟨_, ⟨?_, rfl⟩, inferInstance⟩
 refine congrArg Value.bool ?_
 rw [Bool.eq_iff_iff]; simp only [fR, decide_eq_true_eq, Bool.false_eq_true, false_iff]; omega
theorem qE (b : Nat) (pg : List Pl) (h : Pgs pg) (n : Int) (p : Pl) : aC Tryz.prog W0 97 [.pointer (some ⟨b, 0, none⟩), .int .i64 n, .agg (eo p).toArray] (pt b (fF pg) :: R)
    (fun v B => v = .int .i64 (dY pg n p) ∧ B = pt b (fF (e9 pg n p)) :: R) := by
 have hl := h.len
 refine aF func97 ntmps97 rfl rfl ?_
 refine ae (ah (am rfl (bL rfl) ?_))
 rintro _ _ ⟨b1, rfl, rfl⟩
 refine aa rfl (ai rfl) (ag (ab (ae (ae (ah (aa rfl (ac rfl) (am rfl (aS call216 rfl (ui n)) ?_)))))))
 rintro _ B_ ⟨rfl, hB_⟩
 obtain rfl := hB_.symm
 refine aa rfl (bN rfl) (aa rfl (ac rfl) ?_)
 refine bA rfl rfl rfl ?_ ?_
 intro g1_4
 refine al rfl rfl rfl rfl (al rfl rfl rfl rfl (aa rfl (aT rfl rfl) (aa rfl (ac rfl) (al rfl rfl rfl rfl (al rfl rfl rfl rfl (al rfl rfl rfl rfl (aa rfl (aT rfl rfl) (aa rfl (ac rfl) (al rfl rfl rfl rfl (al rfl rfl rfl rfl (al rfl rfl rfl rfl (aa rfl (aT rfl rfl) (aa rfl (ac rfl) (al rfl rfl rfl rfl (al rfl rfl rfl rfl (al rfl rfl rfl rfl (aa rfl (aT rfl rfl) (ag (ab (bR rfl (ae (ah (aa rfl (ai rfl) ?_)))))))))))))))))))))))
 refine ag (ab (av (aD (au (.inl rfl) (.cons (ak rfl) .nil) ?_))))
 have he : dY pg n p = 1 := by
  unfold dY; rw [if_neg]
  intro hk
  have := jQ.1 hk.2
  first
    | omega
    | (simp [hk.1] at g1_4)
 exact ⟨_, ⟨by simp [cA, he], by rw [e9, he, if_neg (by decide)]⟩, inferInstance⟩
 intro g1_4
 refine aa rfl (ao rfl fY rfl az rfl (by first | exact Nat.zero_add _ | rfl)) ?_
 refine ar rfl rfl (aa rfl (ap aM rfl (aA rfl)) ?_)
 refine ar rfl rfl (aa rfl (aY rfl rfl) (aa rfl (aJ rfl rfl) (aa rfl (ac rfl) ?_)))
 refine bA rfl rfl rfl ?_ ?_
 intro g1_9
 refine al rfl rfl rfl rfl (al rfl rfl rfl rfl (aa rfl (aT rfl rfl) (aa rfl (ac rfl) (al rfl rfl rfl rfl (al rfl rfl rfl rfl (al rfl rfl rfl rfl (aa rfl (aT rfl rfl) (aa rfl (ac rfl) (al rfl rfl rfl rfl (al rfl rfl rfl rfl (al rfl rfl rfl rfl (aa rfl (aT rfl rfl) (ag (ab (bR rfl (ae (ah (aa rfl (ai rfl) (ag (ab (av (aD (au (.inl rfl) (.cons (ak rfl) .nil) ?_)))))))))))))))))))))))
 have he : dY pg n p = 1 := by
  unfold dY; rw [if_neg]
  intro hk
  have := jQ.1 hk.2
  first
    | omega
    | (simp [hk.1] at g1_4)
 exact ⟨_, ⟨by simp [cA, he], by rw [e9, he, if_neg (by decide)]⟩, inferInstance⟩
 intro g1_9
 refine aa rfl (ao rfl fY rfl az rfl (by first | exact Nat.zero_add _ | rfl)) ?_
 refine ar rfl rfl (aa rfl (ap aM rfl (aA rfl)) ?_)
 refine ar rfl rfl (aa rfl (cF rfl rfl) (aa rfl (aJ rfl rfl) (aa rfl (ac rfl) ?_)))
 refine bA rfl rfl rfl ?_ ?_
 intro g1_14
 refine al rfl rfl rfl rfl (al rfl rfl rfl rfl (aa rfl (aT rfl rfl) (aa rfl (ac rfl) (al rfl rfl rfl rfl (al rfl rfl rfl rfl (al rfl rfl rfl rfl (aa rfl (aT rfl rfl) (ag (ab (bR rfl (ae (ah (aa rfl (ai rfl) (ag (ab (av (aD (au (.inl rfl) (.cons (ak rfl) .nil) ?_))))))))))))))))))
 have he : dY pg n p = 1 := by
  unfold dY; rw [if_neg]
  intro hk
  have := jQ.1 hk.2
  first
    | omega
    | (simp [hk.1] at g1_4)
 exact ⟨_, ⟨by simp [cA, he], by rw [e9, he, if_neg (by decide)]⟩, inferInstance⟩
 intro g1_14
 refine aa rfl (ao rfl fY rfl az rfl (by first | exact Nat.zero_add _ | rfl)) ?_
 refine ar rfl rfl (aa rfl (ap aM rfl (aA rfl)) ?_)
 refine ar rfl rfl (aa rfl (aY rfl rfl) (aa rfl (aJ rfl rfl) (aa rfl (ac rfl) ?_)))
 refine bA rfl rfl rfl ?_ ?_
 intro g1_19
 refine al rfl rfl rfl rfl (al rfl rfl rfl rfl (aa rfl (aT rfl rfl) (ag (ab (bR rfl (ae (ah (aa rfl (ai rfl) (ag (ab (av (aD (au (.inl rfl) (.cons (ak rfl) .nil) ?_)))))))))))))
 have he : dY pg n p = 1 := by
  unfold dY; rw [if_neg]
  intro hk
  have := jQ.1 hk.2
  first
    | omega
    | (simp [hk.1] at g1_4)
 exact ⟨_, ⟨by simp [cA, he], by rw [e9, he, if_neg (by decide)]⟩, inferInstance⟩
 intro g1_19
 refine aa rfl (ao rfl fY rfl az rfl (by first | exact Nat.zero_add _ | rfl)) ?_
 refine ar rfl rfl (aa rfl (ap aM rfl (aA rfl)) ?_)
 refine ar rfl rfl (aa rfl (cd rfl rfl) (aa rfl (aJ rfl rfl) (ag (ab ?_))))
 refine ax rfl ?_ ?_
 intro c1
 refine ae (ah (aa rfl (ai rfl) (ag (ab (av (aD (au (.inl rfl) (.cons (ak rfl) .nil) ?_)))))))
 have he : dY pg n p = 1 := by
  unfold dY; rw [if_neg]
  intro hk
  have := jQ.1 hk.2
  first
    | omega
    | (simp [hk.1] at g1_4)
 exact ⟨_, ⟨by simp [cA, he], by rw [e9, he, if_neg (by decide)]⟩, inferInstance⟩
 intro c1
 have hp : fR n = true := by simpa using g1_4
 have ho : gC p = true := jQ.2 (by omega)
 obtain ⟨i, hni, hi⟩ := lY hp
 have htr := ug (pg := pg) (sp := pg.flatMap eo) (i := i) (by omega)
 have hth : dX pg n = decide (fA pg i ≠ (0, 0)) := by rw [dX, hp]; simp [hni]
 refine aB (ab (ae (ae (ah (aa rfl (ac rfl) (aa rfl (ac rfl) (aa rfl (aH rfl) ?_)))))))
 refine aa rfl (ao rfl mD rfl oF rfl (by first | exact Nat.zero_add _ | rfl)) ?_
 refine aa rfl (fk vT cB rfl rfl hni hi (by first | exact Nat.zero_add _ | rfl)) ?_
 refine aa rfl (ap ib rfl (fz (vs := [gI (fA pg i)]) htr rfl 0 _ rfl)) ?_
 refine ag (ab ?_)
 refine ax rfl ?_ ?_
 intro c3
 have ht : dX pg n = true := by rw [hth]; simpa using c3
 refine ae (ah (aa rfl (ai rfl) (ag (ab (av (aD (au (.inl rfl) (.cons (ak rfl) .nil) ?_)))))))
 have he : dY pg n p = 5 := by unfold dY; rw [if_pos ⟨hp, ho⟩, if_pos ht]
 exact ⟨_, ⟨by simp [cA, he], by rw [e9, he, if_neg (by decide)]⟩, inferInstance⟩
 intro c3
 have ht : dX pg n = false := by rw [hth]; simpa using c3
 have he : dY pg n p = 0 := by simp [dY, hp, ho, ht]
 refine aB (ab (ae (ah (aa rfl (ac rfl) (aa rfl (ac rfl) (aa rfl (aH rfl) ?_))))))
 refine aa rfl (ao rfl mD rfl oF rfl (by first | exact Nat.zero_add _ | rfl)) ?_
 refine aa rfl (fk vT cB rfl rfl hni hi (by first | exact Nat.zero_add _ | rfl)) ?_
 refine bE (ce cB rfl rfl rfl (by rw [List.length_append, List.length_map, dm jP]; omega) rfl) ?_
 rintro _ _ rfl
 refine ag (ab (ae ?_))
 refine cY [(b1, 0, _)] 7 cV rfl (aV aK) (fun hS => ?_)
 refine aj 0 rfl rfl (by kernel_rfl) (by kernel_rfl) (by kernel_rfl) rfl hS (ac rfl) ?_
 refine aj 1 rfl rfl (by kernel_rfl) (by kernel_rfl) (by kernel_rfl) rfl hS (ac rfl) ?_
 refine aj 2 rfl rfl (by kernel_rfl) (by kernel_rfl) (by kernel_rfl) rfl hS (cQ jd eS rfl (dA (k := 0) rfl) rfl) ?_
 refine aj 3 rfl rfl (by kernel_rfl) (by kernel_rfl) (by kernel_rfl) rfl hS (aH rfl) ?_
 refine aj 4 rfl rfl (by kernel_rfl) (by kernel_rfl) (by kernel_rfl) rfl hS (ao rfl mD rfl lm rfl (by first | exact Nat.zero_add _ | rfl)) ?_
 refine aj 5 rfl rfl (by kernel_rfl) (by kernel_rfl) (by kernel_rfl) rfl hS (fk oz eS rfl rfl hni hi (by first | exact Nat.zero_add _ | rfl)) ?_
 refine bB 6 (by kernel_rfl) rfl rfl (ir eS rfl rfl rfl rfl (by rw [List.length_set, List.length_append, List.length_map, dm jP]; omega) (zO hl hi ho)) rfl ?_; clear hS
 rintro _ _ rfl
 refine ⟨(aV aK), fun hS => ?_⟩
 refine cg (by kernel_rfl) ?_; clear hS
 refine ab (ae (ah (aa rfl (ai rfl) (ag (ab (av (au (.inl rfl) (.cons (ak rfl) .nil) ?_)))))))
 rw [show e9 pg n p = pg.set i p by rw [e9, if_pos he, hni, Int.toNat_natCast]]
 exact ⟨_, ⟨by simp [cA, he], rfl⟩, inferInstance⟩
theorem zP (b : Nat) (pg : List Pl) (h : Pgs pg) (n : Int) : aC Tryz.prog W0 306 [.pointer (some ⟨b, 0, none⟩), .int .i64 n] (pt b (fF pg) :: R)
    (fun v B => v = .tuple #[.agg (eo (j4 pg n)).toArray, .bool (dX pg n)] ∧ B = pt b (fF pg) :: R) := by
 have hl := h.len
 refine aF func306 ntmps306 rfl rfl ?_
 refine ae (ah (am rfl (dd iF) ?_))
 rintro _ _ ⟨b1, rfl, rfl⟩
 refine aa rfl (ai rfl) (ag (ab (ae (ae (ah (aa rfl (ac rfl) (am rfl (aS call216 rfl (ui n)) ?_)))))))
 rintro _ B_ ⟨rfl, hB_⟩
 obtain rfl := hB_.symm
 refine aa rfl (bN rfl) (ag (ab ?_))
 refine ax rfl ?_ ?_
 intro c1
 refine ae (ah (aa rfl (bQ fY iF (aE az (aE az bP)) bO) ?_))
 refine bE (cK eS rfl rfl rfl rfl rfl) ?_
 rintro _ _ rfl
 refine aa rfl (ai rfl) (ag (ab (av (aD (au (.inl rfl) (.cons (fj jd eS rfl rfl) (.cons (ak rfl) .nil)) ?_)))))
 refine ⟨_, ⟨?_, rfl⟩, inferInstance⟩
 have ht : dX pg n = false := by simp [dX, show fR n = false by simpa using c1]
 simp [cA, j4, ht]
 intro c1
 have hp : fR n = true := by simpa using c1
 obtain ⟨i, hni, hi⟩ := lY hp
 have htr := ug (pg := pg) (sp := pg.flatMap eo) (i := i) (by omega)
 have hpr := zN (pg := pg) hl hi
 refine aB (ab (ae ?_))
 refine cY [(b, 12 + i * 2, eo (fA pg i)), (b, i * 1, [gI (fA pg i)])] 14 cV rfl (df (fz hpr rfl) (df (fz htr rfl) aK)) (fun hS => ?_)
 refine aj 0 rfl rfl (by kernel_rfl) (by kernel_rfl) (by kernel_rfl) rfl hS (ac rfl) ?_
 refine aj 1 rfl rfl (by kernel_rfl) (by kernel_rfl) (by kernel_rfl) rfl hS (ac rfl) ?_
 refine aj 2 rfl rfl (by kernel_rfl) (by kernel_rfl) (by kernel_rfl) rfl hS (aH rfl) ?_
 refine aj 3 rfl rfl (by kernel_rfl) (by kernel_rfl) (by kernel_rfl) rfl hS (ao rfl mD rfl lm rfl (by first | exact Nat.zero_add _ | rfl)) ?_
 refine aj 4 rfl rfl (by kernel_rfl) (by kernel_rfl) (by kernel_rfl) rfl hS (fk oz eS rfl rfl hni hi (by first | exact Nat.zero_add _ | rfl)) ?_
 refine aj 5 rfl rfl (by kernel_rfl) (by kernel_rfl) (by kernel_rfl) rfl hS (cQ jd eS rfl (dA (k := 0) rfl) rfl) ?_
 refine aj 6 rfl rfl (by kernel_rfl) (by kernel_rfl) (by kernel_rfl) rfl hS (ac rfl) ?_
 refine aj 7 rfl rfl (by kernel_rfl) (by kernel_rfl) (by kernel_rfl) rfl hS (ac rfl) ?_
 refine aj 8 rfl rfl (by kernel_rfl) (by kernel_rfl) (by kernel_rfl) rfl hS (aH rfl) ?_
 refine aj 9 rfl rfl (by kernel_rfl) (by kernel_rfl) (by kernel_rfl) rfl hS (ao rfl mD rfl oF rfl (by first | exact Nat.zero_add _ | rfl)) ?_
 refine aj 10 rfl rfl (by kernel_rfl) (by kernel_rfl) (by kernel_rfl) rfl hS (fk vT cB rfl rfl hni hi (by first | exact Nat.zero_add _ | rfl)) ?_
 refine aj 11 rfl rfl (by kernel_rfl) (by kernel_rfl) (by kernel_rfl) rfl hS (ap ib rfl (wW (k := 1) rfl)) ?_
 refine bB 12 (by kernel_rfl) rfl rfl (cK eS rfl rfl rfl rfl rfl) rfl ?_; clear hS
 rintro _ _ rfl
 refine ⟨(df (fz hpr rfl) (df (fz htr rfl) aK)), fun hS => ?_⟩
 refine aj 13 rfl rfl (by kernel_rfl) (by kernel_rfl) (by kernel_rfl) rfl hS (ai rfl) ?_
 refine cg (by kernel_rfl) ?_; clear hS
 refine ab (av (au (.inl rfl) (.cons (fj jd eS rfl rfl) (.cons (ak rfl) .nil)) ?_))
 refine ⟨_, ⟨?_, rfl⟩, inferInstance⟩
 subst hni
 by_cases hz : fA pg i = (0, 0)
 have ht : dX pg i = false := by simp [dX, hz]
 simp [cA, j4, ht, hz, gI]
 have ht : dX pg i = true := by simp [dX, hz, hp]
 simp [cA, j4, ht, hz, gI]
def zQ (d : Nat) : List Value := (List.range 12).map (fun i => .bool (Nat.testBit d i))
abbrev kZ (qs qm d : Nat) : Obj := aw (.pointer (some ⟨qs, 0, none⟩) :: .pointer (some ⟨qm, 0, none⟩) :: zQ d) 243
structure QS where
  r : Rg3
  on : Bool
  br : Int
  last : Nat
  put : Nat
@[reducible] def i6 : QS := ⟨⟨0, 0, 0, 0⟩, false, 0, 0, 0⟩
abbrev qO (m : Bool) (s : QS) : Obj := aw [.int .u32 s.r.desc, .int .u32 s.r.avail, .int .u32 s.r.used, .int .i64 s.r.n, .bool s.on, .int .i64 s.br, .int .i64 s.last, .int .i64 s.put, .bool m] 470
theorem zR : aC Tryz.prog W0 213 [] R (fun v B => ∃ b, v = .pointer (some ⟨b, 0, none⟩) ∧ B = pt b (qO true i6) :: R) := by
 refine aF func213 ntmps213 rfl rfl ?_
 refine ae (ah (aa rfl (ai rfl) (ag (ab (ae (ah (aa rfl (bQ underlying470 zeroValue470 (aE sizeOf227 (aE cB bP)) (bn rfl cB rfl rfl (Nat.le_of_ble_eq_true rfl) SetL.eq bO)) ?_)))))))
 refine am rfl (bL rfl) ?_
 rintro _ _ ⟨b1, rfl, rfl⟩
 refine aa rfl (ai rfl) (ag (ab (av (au (.inl rfl) (.cons (ak rfl) .nil) ?_))))
 exact ⟨_, ⟨_, rfl, rfl⟩, inferInstance⟩
section
variable {P : Program} {S : World → Prop} {W0 : World} {N : FSz} {e : bK} {A R : List HP} {t t' : TypeId} {x : Operand} {v : Value} {b : Nat} {vs : List Value}
end
def gq : List Nat := List.replicate 16 0
structure Dk where
  rs : List Rn
  lb : List Int
  ss : List (List Nat)
def qF (ss : List (List Nat)) (i : Nat) : List Nat := ss.getD i gq
def md (ss : List (List Nat)) : Int → Option Value := fun k => if 0 ≤ k ∧ k < 32 then (if qF ss k.toNat = gq then none else some (.agg (bU (qF ss k.toNat)).toArray)) else none
@[reducible] def me (bt bm : Nat) (aL : Option Addr) (n cL : Nat) : Obj := aw [.pointer (some ⟨bt, 0, none⟩), .slice aL n cL, .map (some bm)] 425
def j9 (d : Nat) (x : Dk) : HP := chk (fun C => ∃ bt bm aL cL, C = [pt d (me bt bm aL x.lb.length cL), gm bt (x.rs, 32), osl 3 1 (.slice aL x.lb.length cL) (x.lb.flatMap ei), jZ bm (md x.ss)])
section
variable {W0 : World} {N : FSz} {K : Act → World → Prop} {e : bK} {A B R R1 R2 R3 R4 : List HP} {d : Nat} {x : Dk}
theorem zS {bt bm n cL : Nat} {aL : Option Addr} {rs : List Rn} {ys : List Value} {f : Int → Option Value} [h1 : Tk pt d A (me bt bm aL n cL) R1] [h2 : Tk gm bt R1 (rs, 32) R2] [h3 : Tk (osl 3 1) (.slice aL n cL) R2 ys R3] [h4 : Tk jZ bm R3 f R4]
    (e1 : rs = x.rs) (e2 : ys = x.lb.flatMap ei) (e3 : f = md x.ss) (e4 : n = x.lb.length) [k : Ent R4 B] : Ent A (j9 d x :: B) := by
 subst e1; subst e2; subst e3; subst e4
 have e : A.Perm ([pt d (me bt bm aL x.lb.length cL), gm bt (x.rs, 32), osl 3 1 (.slice aL x.lb.length cL) (x.lb.flatMap ei), jZ bm (md x.ss)] ++ R4) := h1.perm.trans ((h2.perm.trans ((h3.perm.trans (h4.perm.cons _)).cons _)).cons _)
 exact (Ent.ofPerm e).trans ((eE (R := R4) ⟨bt, bm, aL, cL, rfl⟩).trans (Ent.cons k))
end
section
variable {P : Program} {S : World → Prop} {W0 : World} {N : FSz} {e : bK} {A R : List HP} {ty t t' : TypeId} {x y : Operand} {b off : Nat} {l l' vs : List Value}
theorem zT {E sz dn dc sn sc m : Nat} {ay : Option Addr} (hu : P.underlying t = some (.slice E)) (hs : ∀ w, (sizeOf E).run P w = .ok sz w) (hx : ev e x = some (.slice (some ⟨b, off, none⟩) dn dc)) (hy : ev e y = some (.slice ay sn sc))
    [h : Tk pt b A (aw l ty) R] (hm : Nat.min sn dn = m) (hsrc : m = 0 ∨ ∃ bx ox, ay = some ⟨bx, ox, none⟩ ∧ cJ (bI W0 A) bx ox vs) (hl : vs.length = m * sz) (h1 : en vs = true) (ho : off + m * sz ≤ l.length) (hr : setR l off vs = l') :
    di P W0 N e A (.call { callee := .builtin .copy, args := #[x, y], argTypes := #[t, t'] }) (fun v B => v = .int .i64 m ∧ B = pt b (aw l' ty) :: R) := by
 rcases hsrc with rfl | ⟨bx, ox, rfl, hc⟩
 have h0 : vs = [] := List.eq_nil_of_length_eq_zero (by simpa using hl)
 subst h0
 have hr' : l = l' := hr
 subst hr'
 intro a w dst ty' pos af g K Q hF hO k
 have hO' := hO.tk (r := pt) (b := b)
 have hexec : (execOp a.eval { dst := dst, op := .call { callee := .builtin .copy, args := #[x, y], argTypes := #[t, t'] }, type := ty', pos := pos, after := af, guard := g }).run P w = .ok (.value (.int .i64 0)) w := by
  have hs' : (sizeOf E).run P w = .ok sz w := hs w
  cases ay <;>
  simp only [execOp, resolve, invoke, builtin, Sem.run_bind, Sem.run_pure, Result.andThen_ok, List.map_toArray, List.map_cons, List.map_nil, hF.eval hx, hF.eval hy, Builtin.copy_, Builtin.lenOf, Builtin.firstCells, dF hu, hm, Array.getElem?_eq_getElem, List.getElem?_toArray, List.getElem?_cons_zero, List.getElem?_cons_succ, hs', loadCells, loadCellsFrom, Nat.zero_mul, storeCells, goInt] <;> rfl
 unfold Oper.wp
 rw [hexec]
 exact k _ w _ ⟨rfl, rfl⟩ hO'
 exact kL hu hs hx hy hm hc hl h1 ho hr
end
@[reducible] def i7 (x : Nat) : List Value := [wV x]
theorem qG (x : Nat) : (i7 x).length = 1 := rfl
theorem qH (l : List Nat) : l.flatMap i7 = l.map wV := y2 wV l
def bH (ws : List Nat) (p : Nat) : List Nat := ws.take (16 * p)
theorem mf (ws : List Nat) (p : Nat) : (bH ws p).length = min (16 * p) ws.length := by rw [bH, List.length_take]
theorem qI (a b : Nat) : (if (b : Int) < (a : Int) then (b : Int) else (a : Int)) = ((min a b : Nat) : Int) := by
 split <;> omega
theorem uj {p : Nat} (h : p ≤ 8) : (if (8 : Int) < (p : Int) then (8 : Int) else (p : Int)) = (p : Int) := by rw [if_neg (by omega)]
theorem zU (a : Nat) : (if (a : Int) > (0 : Int) then (a : Int) else (0 : Int)) = (a : Int) := by
 split <;> omega
theorem uk (a : Option Addr) (c p : Nat) (ws : List Nat) (hs : cq (bI W0 R) a 1 i7 ws) (hp : p ≤ 8) (hn : ws.length < 9223372036854775808) :
    aC Tryz.prog W0 87 [.slice a ws.length c, .int .i64 p] R (fun v B => ∃ g, v = .slice (some ⟨g, 0, none⟩) (bH ws p).length (bH ws p).length ∧ B = pt g (aw ((bH ws p).map wV) 42) :: R) := by
 have hl := mf ws p
 have hsrc := (hs.take (16 * p)).src qG (fun _ => trivial)
 rw [qH] at hsrc
 refine aF func87 ntmps87 rfl rfl ?_
 refine ae (ah (aa rfl (ai rfl) (ag (ab (ae (ah (aa rfl (ac rfl) (aa rfl (lW rfl rfl (uj hp)) ?_))))))))
 refine aa rfl (tn rfl rfl (zU p)) ?_
 refine aa rfl (iq rfl rfl (by rw [aW (by omega)]; omega : IntKind.wrap .i64 ((p : Int) * 16) = ((16 * p : Nat) : Int))) ?_
 refine aa rfl (ai rfl) (ag (ab ?_))
 refine gM (fun m : Nat => m = (bH ws p).length) (fun m => [(0, .slice a ws.length c), (5, .int .i64 m)]) (fun _ => R) ?_ ?_
 skip
 refine ae (ah (aa rfl (ac rfl) (aa rfl (ac rfl) (aa rfl (bq ik rfl) (aa rfl (cF rfl rfl) (ag (ab ?_)))))))
 refine ax rfl ?_ ?_
 intro c2
 refine ah (aa rfl (ac rfl) (aa rfl (bq ik rfl) (aa rfl (ai rfl) (ag (ab ?_)))))
 refine dK ws.length ?_ ?_ ?_
 omega
 · repeat (first | exact aX | refine aU rfl ?_)
 exact inferInstance
 intro c2
 refine aB (ab ?_)
 refine dK (16 * p) ?_ ?_ ?_
 omega
 · repeat (first | exact aX | refine aU rfl ?_)
 exact inferInstance
 intro m hm
 refine ae (ah (aa rfl (ac rfl) ?_))
 refine am rfl (lV (sz := 1) (by_ := 4) (info := Tryz.t42) ik (by kernel_rfl) rfl rfl rfl rfl (by decide) rfl rfl rfl rfl (by omega) (by decide)) ?_
 rintro _ _ ⟨g, rfl, rfl⟩
 refine aa rfl (ai rfl) (ag (ab (ae (ah (aa rfl (ac rfl) (aa rfl (ac rfl) ?_))))))
 refine am rfl (zT ik dz rfl rfl (m := m) (vs := (bH ws p).map wV) (Nat.min_eq_right (by omega)) (by
       rcases hsrc with h | ⟨b, o, h1, h2⟩
       · left; rw [hm, bH, h]; rfl
       right; exact ⟨b, o, h1, h2.weak⟩) (by rw [List.length_map, hm]; omega) (by simp [en, wV, Value.oneCell']) (by rw [List.length_replicate]; omega) (by have := mR ((bH ws p).map wV) (List.replicate (m * 1) (.int .u32 0)) [] (by rw [List.length_map, List.length_replicate, hm]; omega); simpa using this)) ?_
 rintro _ B_ ⟨rfl, hB_⟩
 obtain rfl := hB_.symm
 refine ag (ab (ae (ah (aa rfl (ac rfl) (aa rfl (ai rfl) (ag (ab (av (au (.inl rfl) (.cons (ak rfl) .nil) ?_)))))))))
 subst hm
 exact ⟨_, ⟨g, rfl, rfl⟩, inferInstance⟩
def fG (n i : Nat) : Nat := min n (i * 16)
theorem ul (ws : List Nat) (i : Nat) : (cH ws i).length = min ws.length (fG ws.length i + 16) - fG ws.length i := by
 rw [cH, List.length_take, List.length_drop, fG]; omega
theorem zV (W0 : World) (R : List HP) (a : Option Addr) (c n i : Nat) (ws : List Nat) (hn : ws.length = n) (hc : n ≤ c) (hi : i < 8) (h63 : n ≤ 1000) :
    aC Tryz.prog W0 203 [.slice a n c, .int .i64 i] R (fun v B => v = .slice (fT a c (fG n i) 1) (cH ws i).length (c - fG n i) ∧ B = R) := by
 have hl := ul ws i
 rw [hn] at hl
 have hF : fG n i = min n (i * 16) := rfl
 refine aF func203 ntmps203 rfl rfl ?_
 refine ae (ah (aa rfl (ai rfl) (ag (ab (ae (ah (aa rfl (ac rfl) (aa rfl (bq ik rfl) (aa rfl (ac rfl) ?_)))))))))
 refine aa rfl (iq rfl rfl (by rw [aW (by omega)]; omega : IntKind.wrap .i64 ((i : Int) * 16) = ((i * 16 : Nat) : Int))) ?_
 refine aa rfl (lW rfl rfl (qI n (i * 16))) ?_
 refine aa rfl (ai rfl) (ag (ab (ae (ah (aa rfl (ac rfl) (aa rfl (ac rfl) (aa rfl (ac rfl) (aa rfl (bq ik rfl) (aa rfl (ac rfl) ?_)))))))))
 refine aa rfl (bC rfl rfl (by rw [aW (by omega)]; omega : IntKind.wrap .i64 (((fG n i : Nat) : Int) + 16) = ((fG n i + 16 : Nat) : Int))) ?_
 refine aa rfl (lW rfl rfl (qI n (fG n i + 16))) ?_
 refine aa rfl (ya ik dz rfl rfl rfl rfl rfl (by omega) (by omega)) ?_
 refine aa rfl (ai rfl) (ag (ab (av (au (.inl rfl) (.cons (ak rfl) .nil) ?_))))
 rw [hl]
 exact ⟨_, ⟨rfl, rfl⟩, inferInstance⟩
theorem zW {S : World → Prop} {a : Option Addr} {c i : Nat} {ws : List Nat} (h : cq S a 1 i7 ws) (hc : ws.length ≤ c) : cq S (fT a c (fG ws.length i) 1) 1 i7 (cH ws i) := by
 have hk : fG ws.length i + (cH ws i).length ≤ ws.length := by
  rw [ul]; have : fG ws.length i = min ws.length (i * 16) := rfl; omega
 have := h.sub hk hc
 have e : (ws.drop (fG ws.length i)).take (cH ws i).length = cH ws i := by
  have hF : fG ws.length i = min ws.length (i * 16) := rfl
  rcases Nat.lt_or_ge ws.length (i * 16) with q | q
  have h0 : cH ws i = [] := by
   rw [cH, List.drop_of_length_le (by omega)]; rfl
  rw [h0]; rfl
  rw [show fG ws.length i = 16 * i by omega, cH, List.length_take]
  rcases Nat.le_total 16 (ws.drop (16 * i)).length with z | z
  rw [Nat.min_eq_left z]
  rw [Nat.min_eq_right z, List.take_of_length_le (Nat.le_refl _), List.take_of_length_le z]
 rwa [e] at this
theorem zX (W0 : World) (R : List HP) (pb ps : Nat) (po : Po) (h0 : 0 < po.length) :
    aC Tryz.prog W0 123 [.pointer (some ⟨pb, 0, none⟩), .int .i64 (-1), .int .i64 0] (d6 pb (ps, po) :: R) (fun v B => v = .int .i64 1 ∧ B = d6 pb (ps, po) :: R) := by
 have hi : dH po.length (-1) = false := by simp [dH]
 refine aF func123 ntmps123 rfl rfl ?_
 refine ae (ah (aa rfl (ai rfl) (ag (ab (ae (b0 (ae (ah (aa rfl (ac rfl) (am rfl (bz rC rfl (nE W0 _ pb ps po h0)) ?_))))))))))
 rintro _ B_ ⟨rfl, hB_⟩
 obtain rfl := hB_.symm
 refine aa rfl (ai rfl) (ag (ab ?_))
 refine ax rfl ?_ ?_
 intro c1
 exact absurd c1 (by decide)
 intro c1
 refine ae (ae (ah (aa rfl (ac rfl) (aa rfl (ac rfl) (am rfl (bz call258 rfl (tB W0 _ pb ps po (-1))) ?_)))))
 rintro _ B_ ⟨rfl, hB_⟩
 obtain rfl := hB_.symm
 refine aa rfl (bN rfl) (aa rfl (ai rfl) (ag (ab ?_)))
 refine ax rfl ?_ ?_
 intro c3
 refine aB (ab (bR rfl (ae (ah (aa rfl (ai rfl) (ag (ab (av (bj (aD (au (.inl rfl) (.cons (ak rfl) .nil) ?_)))))))))))
 exact ⟨_, ⟨rfl, rfl⟩, inferInstance⟩
 intro c3
 exact absurd (by simp [hi]) c3
theorem zY (b : Nat) (pg : List Pl) (h : Pgs pg) : aC Tryz.prog W0 207 [.pointer (some ⟨b, 0, none⟩), .int .i64 (-1)] (pt b (dv pg) :: R)
    (fun v B => v = .int .i64 1 ∧ B = pt b (dv pg) :: R) := by
 refine aF func207 ntmps207 rfl rfl ?_
 refine ae (ah (aa rfl (ai rfl) (ag (ab (ae (b0 (ae (ah (aa rfl (ac rfl) (am rfl (bz rr rfl (nj b pg h)) ?_))))))))))
 rintro _ B_ ⟨rfl, hB_⟩
 obtain rfl := hB_.symm
 refine aa rfl (ai rfl) (ag (ab ?_))
 refine ax rfl ?_ ?_
 intro c1
 exact absurd c1 (by decide)
 intro c1
 refine ae (ah (aa rfl (ac rfl) (am rfl (aS rq rfl (nk (-1))) ?_)))
 rintro _ B_ ⟨rfl, hB_⟩
 obtain rfl := hB_.symm
 refine aa rfl (bN rfl) (aa rfl (ai rfl) (ag (ab ?_)))
 refine ax rfl ?_ ?_
 intro c3
 refine ae (ah (aa rfl (ai rfl) (ag (ab (av (bj (aD (au (.inl rfl) (.cons (ak rfl) .nil) ?_))))))))
 exact ⟨_, ⟨rfl, rfl⟩, inferInstance⟩
 intro c3
 exact absurd c3 (by decide)
theorem zZ (W0 : World) (R : List HP) (pb ps pm : Nat) (x : Im) (h : ImOk x) (h0 : 0 < x.fr.length) :
    aC Tryz.prog W0 296 [.pointer (some ⟨pb, 0, none⟩), .pointer (some ⟨ps, 0, none⟩), .pointer (some ⟨pm, 0, none⟩)] (d6 pb (ps, x.po) :: cy ps x.fr :: pt pm (dv x.pg) :: R) (fun v B => v = .bool true ∧ B = d6 pb (ps, x.po) :: cy ps x.fr :: pt pm (dv x.pg) :: R) := by
 have hl := h.len
 refine aF func296 ntmps296 rfl rfl ?_
 refine ae (ah (aa rfl (ai rfl) (ag (ab (ae (ah (aa rfl (ac rfl) ?_)))))))
 refine am rfl (bz call123 rfl (zX W0 _ pb ps x.po (by omega))) ?_
 rintro _ B_ ⟨rfl, hB_⟩
 obtain rfl := hB_.symm
 refine aa rfl (co rfl rfl) (aa rfl (ac rfl) ?_)
 refine cG rfl rfl rfl ?_ ?_
 intro g1_4
 refine aa rfl (ac rfl) (ar rfl rfl (am rfl (bz mu rfl (kO W0 _ ps x.fr)) ?_))
 rintro _ B_ ⟨rfl, hB_⟩
 obtain rfl := hB_.symm
 refine ar rfl rfl (aa rfl (cd rfl rfl) (aa rfl (aT rfl rfl) (aa rfl (ac rfl) ?_)))
 refine cG rfl rfl rfl ?_ ?_
 intro g1_9
 refine aa rfl (ac rfl) (ar rfl rfl (am rfl (bz call207 rfl (zY pm x.pg h.pg)) ?_))
 rintro _ B_ ⟨rfl, hB_⟩
 obtain rfl := hB_.symm
 refine ar rfl rfl (aa rfl (co rfl rfl) (aa rfl (aT rfl rfl) (aa rfl (ai rfl) (ag (ab (av (au (.inl rfl) (.cons (ak rfl) .nil) ?_)))))))
 exact ⟨_, ⟨rfl, rfl⟩, inferInstance⟩
 intro g1_9
 omega
 intro g1_4
 exact absurd (by decide) g1_4
theorem A0 (W0 : World) (R : List HP) (pm : Nat) (pg : List Pl) (h : Pgs pg) (n : Nat) (hn : n ≤ 8) (hf : jU pg 0 n) :
    aC Tryz.prog W0 297 [.pointer (some ⟨pm, 0, none⟩), .int .i64 n] (pt pm (dv pg) :: R) (fun v B => v = .bool true ∧ B = pt pm (dv pg) :: R) := by
 refine aF func297 ntmps297 rfl rfl ?_
 refine ae (ah (aa rfl (ai rfl) (ag (ab (ae (ae (ah (aa rfl (ac rfl) (aa rfl (ac rfl) (ag (ab (b0 ?_))))))))))))
 refine cC (fun i : Nat => i ≤ n) (fun i => [(0, .pointer (some ⟨pm, 0, none⟩)), (8, .int .i64 n), (9, .int .i64 i)]) (fun _ => pt pm (dv pg) :: R) (fun i => n - i) 0 ?_ ?_ ?_ ?_
 exact Nat.zero_le _
 · repeat (first | exact aX | refine aU rfl ?_)
 exact inferInstance
 intro i hi
 refine ae (ah (aa rfl (aY rfl rfl) (ag (ab (ae ?_)))))
 refine ax rfl ?_ ?_
 intro c2
 refine aB (ab (ae (b0 (ae (ah (aa rfl (ac rfl) (aa rfl (ai rfl) (ag (ab (ae (ah (aa rfl (ac rfl) (aa rfl (ac rfl) (am rfl (bz call144 rfl (xJ pm pg h i)) ?_))))))))))))))
 rintro _ B_ ⟨rfl, hB_⟩
 obtain rfl := hB_.symm
 refine aa rfl (ac rfl) (aa rfl (aZ rfl rfl) (aa rfl (aZ rfl rfl) (am rfl (dd iF) ?_)))
 rintro _ _ ⟨bx, rfl, rfl⟩
 refine bE (cK eS rfl rfl rfl rfl rfl) ?_
 rintro _ _ rfl
 refine aa rfl (ai rfl) (ag (ab (ae (ah (aa rfl (ac rfl) (ag (ab ?_)))))))
 refine ax rfl ?_ ?_
 intro c5
 exact absurd c5 (by rw [hf i (Nat.zero_le _) (by omega)]; decide)
 intro c5
 refine aB (bF (ab (ah ?_)))
 refine aa rfl (bC rfl rfl (by first | exact aW (by omega) | rfl)) ?_
 refine aa rfl (ac rfl) (ag (ab ?_))
 refine cp (i + 1) ?_ ?_ ?_ ?_
 omega
 omega
 · repeat (first | exact aX | refine aU rfl ?_)
 exact inferInstance
 intro c2
 refine bX (bi (bi (bZ (ab (ae (ah (aa rfl (ai rfl) (ag (ab (av (au (.inl rfl) (.cons (ak rfl) .nil) ?_)))))))))))
 exact ⟨_, ⟨rfl, rfl⟩, inferInstance⟩
theorem A1 (W0 : World) (R : List HP) (pb ps pm who n : Nat) (x : Im) (h : ImOk x) (h0 : 0 < x.fr.length) (hw : who < 16) (h1 : 1 ≤ n) (h8 : n ≤ 8) (hf : jU x.pg 0 n) (hl : n ≤ (bJ x.po who).length) :
    aC Tryz.prog W0 200 [.pointer (some ⟨pb, 0, none⟩), .pointer (some ⟨ps, 0, none⟩), .pointer (some ⟨pm, 0, none⟩), .int .i64 who, .int .i64 n] (d6 pb (ps, x.po) :: cy ps x.fr :: pt pm (dv x.pg) :: R) (fun v B => v = .int .i64 0 ∧ B = d6 pb (ps, x.po) :: cy ps x.fr :: pt pm (dv x.pg) :: R) := by
 have hle := h.len
 refine aF func200 ntmps200 rfl rfl ?_
 refine ae (ah (aa rfl (ai rfl) (ag (ab (ae (b0 (ae (ah (aa rfl (ac rfl) (aa rfl (ac rfl) (aa rfl (ac rfl) (am rfl (kG call296 rfl (zZ W0 _ pb ps pm x h h0)) ?_))))))))))))
 rintro _ B_ ⟨rfl, hB_⟩
 obtain rfl := hB_.symm
 refine aa rfl (bN rfl) (aa rfl (ai rfl) (ag (ab ?_)))
 refine ax rfl ?_ ?_
 intro c1
 exact absurd c1 (by decide)
 intro c1
 refine ae (ae (ah (aa rfl (ac rfl) (aa rfl (aY rfl rfl) (aa rfl (ai rfl) (ag (ab ?_)))))))
 refine ax rfl ?_ ?_
 intro c3
 omega
 intro c3
 refine ae (ah (aa rfl (ac rfl) (aa rfl (cd rfl rfl) (aa rfl (ai rfl) (ag (ab ?_))))))
 refine ax rfl ?_ ?_
 intro c4
 omega
 intro c4
 refine ae (ah (aa rfl (ac rfl) (aa rfl (aY rfl rfl) (aa rfl (ai rfl) (ag (ab ?_))))))
 refine ax rfl ?_ ?_
 intro c5
 omega
 intro c5
 refine ah (aa rfl (ac rfl) (aa rfl (cF rfl rfl) (aa rfl (ai rfl) (ag (ab ?_)))))
 refine ax rfl ?_ ?_
 intro c6
 omega
 intro c6
 refine ae (ah (aa rfl (ac rfl) (aa rfl (ac rfl) (am rfl (bz call297 rfl (A0 W0 _ pm x.pg h.pg n h8 hf)) ?_))))
 rintro _ B_ ⟨rfl, hB_⟩
 obtain rfl := hB_.symm
 refine aa rfl (bN rfl) (aa rfl (ai rfl) (ag (ab ?_)))
 refine ax rfl ?_ ?_
 intro c8
 exact absurd c8 (by decide)
 intro c8
 refine ae (ah (aa rfl (ac rfl) (aa rfl (ac rfl) ?_)))
 refine am rfl (bz call298 rfl (yD W0 _ pb ps x.po who (by omega) hw)) ?_
 rintro _ B_ ⟨rfl, hB_⟩
 obtain rfl := hB_.symm
 refine aa rfl (ac rfl) (aa rfl (aY rfl rfl) (aa rfl (ai rfl) (ag (ab ?_))))
 refine ax rfl ?_ ?_
 intro c10
 omega
 intro c10
 refine aB (bF (ab (ae (ah (aa rfl (ai rfl) (ag (ab (av (au (.inl rfl) (.cons (ak rfl) .nil) ?_)))))))))
 exact ⟨_, ⟨rfl, rfl⟩, inferInstance⟩
theorem A2 {pg : List Pl} {i f : Nat} (hi : i < 8) (hf : f < 32) (ht : dX pg (i : Nat) = false) : dY pg i ((f : Int), 3) = 0 := by
 rw [dY, if_pos ⟨by simp only [fR, decide_eq_true_eq]; omega, by simp only [gC, decide_eq_true_eq]; omega⟩, ht]; rfl
theorem A3 (W0 : World) (R : List HP) (b6 b9 b14 b7 b8 g pb ps pm who i f : Nat) (l : List Nat) (x : Im) (h : ImOk x) (ws : List Nat) (hw : who < 16) (hi : i < 8) (he : bJ x.po who = f :: l) (ht : dX x.pg (i : Nat) = false) (hb : ∀ y ∈ ws, y < 4294967296) (hN : ws.length ≤ 128) :
    aC Tryz.prog W0 201 ([] ++ [.int .i64 i] ++ [.pointer (some ⟨b6, 0, none⟩), .pointer (some ⟨b9, 0, none⟩), .pointer (some ⟨b14, 0, none⟩), .pointer (some ⟨b7, 0, none⟩), .pointer (some ⟨b8, 0, none⟩)])
      (pt b6 (aw [.pointer (some ⟨pb, 0, none⟩)] 64) :: pt b9 (aw [.int .i64 who] 3) :: pt b14 (aw [.slice (some ⟨g, 0, none⟩) ws.length ws.length] 98) :: pt b7 (aw [.pointer (some ⟨ps, 0, none⟩)] 63) :: pt b8 (aw [.pointer (some ⟨pm, 0, none⟩)] 207) :: pt g (aw (ws.map wV) 42) :: d6 pb (ps, x.po) :: cy ps x.fr :: pt pm (dv x.pg) :: R)
      (fun v B => v = .int .i64 0 ∧ B = pt b6 (aw [.pointer (some ⟨pb, 0, none⟩)] 64) :: pt b9 (aw [.int .i64 who] 3) :: pt b14 (aw [.slice (some ⟨g, 0, none⟩) ws.length ws.length] 98) :: pt b7 (aw [.pointer (some ⟨ps, 0, none⟩)] 63) :: pt b8 (aw [.pointer (some ⟨pm, 0, none⟩)] 207) :: pt g (aw (ws.map wV) 42) :: d6 pb (ps, (fm who ws x i).po) :: cy ps (fm who ws x i).fr :: pt pm (dv (fm who ws x i).pg) :: R) := by
 have hf := gD.1 (show f ∈ bJ x.po who by rw [he]; simp)
 have hpl := h.po.len
 have hst : fm who ws x i = ⟨eF f (cH ws i) 0 x.fr, x.po.set f ((who : Int), true), e9 x.pg i ((f : Int), 3)⟩ := by rw [fm, he]
 rw [hst]
 have hpgb : ∀ y ∈ cH ws i, y < 4294967296 := fun y hy => hb y (List.mem_of_mem_drop (List.mem_of_mem_take hy))
 have hpl16 : (cH ws i).length ≤ 16 := by rw [cH, List.length_take]; omega
 simp only [List.nil_append, List.cons_append]
 refine aF func201 ntmps201 rfl rfl ?_
 refine ae (ah (aa rfl (ai rfl) (ag (ab (ae (ah (aa rfl (ap vU rfl (aA rfl)) ?_)))))))
 refine aa rfl (ap aM rfl (aA rfl)) ?_
 refine am rfl (bz call202 rfl (yE W0 _ pb ps x.po who f l hw h.po he)) ?_
 rintro _ B_ ⟨rfl, hB_⟩
 obtain rfl := hB_.symm
 refine aa rfl (ac rfl) (aa rfl (aZ rfl rfl) (aa rfl (aZ rfl rfl) (aa rfl (ai rfl) (aa rfl (ai rfl) (ag (ab (ae (ae (ah (aa rfl (ac rfl) (aa rfl (co rfl rfl) (ag (ab ?_)))))))))))))
 refine ax rfl ?_ ?_
 intro c2
 exact absurd c2 (by decide)
 intro c2
 refine aB (ab (ae (ae (ah (aa rfl (ap isAgg98 rfl (aA rfl)) ?_)))))
 refine aa rfl (ac rfl) ?_
 refine am rfl (aS call203 rfl (zV W0 _ (some ⟨g, 0, none⟩) ws.length ws.length i ws rfl (Nat.le_refl _) hi (by omega))) ?_
 rintro _ B_ ⟨rfl, hB_⟩
 obtain rfl := hB_.symm
 refine aa rfl (bq ik rfl) (aa rfl (ac rfl) (ag (ab (b0 ?_))))
 refine cC (fun k : Nat => k ≤ (cH ws i).length) (fun k => [(0, .int .i64 i), (4, .pointer (some ⟨b7, 0, none⟩)), (5, .pointer (some ⟨b8, 0, none⟩)), (8, .int .i64 f), (23, .slice (fT (some ⟨g, 0, none⟩) ws.length (fG ws.length i) 1) (cH ws i).length (ws.length - fG ws.length i)), (24, .int .i64 (cH ws i).length), (25, .int .i64 k)]) (fun k => pt b6 (aw [.pointer (some ⟨pb, 0, none⟩)] 64) :: pt b9 (aw [.int .i64 who] 3) :: pt b14 (aw [.slice (some ⟨g, 0, none⟩) ws.length ws.length] 98) :: pt b7 (aw [.pointer (some ⟨ps, 0, none⟩)] 63) :: pt b8 (aw [.pointer (some ⟨pm, 0, none⟩)] 207) :: pt g (aw (ws.map wV) 42) :: d6 pb (ps, x.po.set f ((who : Int), true)) :: cy ps (eF f ((cH ws i).take k) 0 x.fr) :: pt pm (dv x.pg) :: R) (fun k => (cH ws i).length - k) 0 ?_ ?_ ?_ ?_
 exact Nat.zero_le _
 · repeat (first | exact aX | refine aU rfl ?_)
 rw [show eF f ((cH ws i).take 0) 0 x.fr = x.fr from rfl]
 exact inferInstance
 intro k hk
 refine ae (ah (aa rfl (aY rfl rfl) (ag (ab (ae ?_)))))
 refine ax rfl ?_ ?_
 intro c5
 refine aB (ab (ae (b0 (ae ?_))))
 have hk1 : k < (cH ws i).length := by omega
 have hsl : cq (bI W0 (pt b6 (aw [.pointer (some ⟨pb, 0, none⟩)] 64) :: pt b9 (aw [.int .i64 who] 3) :: pt b14 (aw [.slice (some ⟨g, 0, none⟩) ws.length ws.length] 98) :: pt b7 (aw [.pointer (some ⟨ps, 0, none⟩)] 63) :: pt b8 (aw [.pointer (some ⟨pm, 0, none⟩)] 207) :: pt g (aw (ws.map wV) 42) :: d6 pb (ps, x.po.set f ((who : Int), true)) :: cy ps (eF f ((cH ws i).take k) 0 x.fr) :: pt pm (dv x.pg) :: R)) (some ⟨g, 0, none⟩) 1 i7 ws := jk (b := g) qG (qH ws).symm
 obtain ⟨gb, go, hga, hc⟩ := (zW (i := i) hsl (Nat.le_refl _)).at_ hk1
 obtain ⟨y, hy⟩ : ∃ y, (cH ws i)[k] = y := ⟨_, rfl⟩
 rw [hy] at hc
 have hyb := hpgb _ (List.getElem_mem hk1)
 rw [hy] at hyb
 have htk : (cH ws i).take (k + 1) = (cH ws i).take k ++ [y] := by rw [← hy]; exact List.take_succ_eq_append_getElem hk1
 obtain ⟨hF, hFl⟩ := kP (f := f) (l := (cH ws i).take k) (k := 0) h.fr
 have hs0 := pE f y ((cH ws i).take k) 0 x.fr
 rw [← htk, List.length_take, Nat.min_eq_left (by omega), Nat.zero_add] at hs0
 refine ah (aa rfl (ac rfl) ?_)
 refine aa rfl (ec ik dz rfl hga rfl rfl hk1 (by first | exact Nat.zero_add _ | rfl)) ?_
 refine aa rfl (ap je rfl (hc 0 _ rfl)) ?_
 refine aa rfl (ai rfl) (aa rfl (ai rfl) (ag (ab (ah (aa rfl (ap kl rfl (aA rfl)) ?_)))))
 refine aa rfl (ac rfl) (aa rfl (ac rfl) ?_)
 refine aa rfl (iq rfl rfl (by rw [aW (by omega)]; omega : IntKind.wrap .i64 (4 * (k : Int)) = ((4 * k : Nat) : Int))) ?_
 refine aa rfl (ac rfl) (am rfl (bz call29 rfl (xE W0 _ ps (eF f ((cH ws i).take k) 0 x.fr) f (4 * k : Nat) 4 y hyb hF)) ?_)
 rintro _ B_ ⟨rfl, hB_⟩
 obtain rfl := hB_.symm
 refine ag (bF (ab (ah ?_)))
 refine aa rfl (bC rfl rfl (by first | exact aW (by omega) | rfl)) ?_
 refine aa rfl (ac rfl) (ag (ab ?_))
 refine cp (k + 1) ?_ ?_ ?_ ?_
 omega
 omega
 · repeat (first | exact aX | refine aU rfl ?_)
 rw [hs0]
 exact inferInstance
 intro c5
 refine bX (bi (bi (bZ (ab (ae ?_)))))
 obtain rfl : k = (cH ws i).length := by omega
 rw [List.take_of_length_le (Nat.le_refl _)]
 refine ah (aa rfl (ap vQ rfl (aA rfl)) ?_)
 refine aa rfl (ac rfl) (aa rfl (ac rfl) (aa rfl (bQ fY iF (aE az (aE az bP)) (bn rfl az rfl rfl (Nat.le_of_ble_eq_true rfl) SetL.eq (bn rfl az rfl rfl (Nat.le_of_ble_eq_true rfl) SetL.eq bO))) ?_))
 refine am rfl (bz call204 rfl (sY pm x.pg h.pg i ((f : Int), 3))) ?_
 rintro _ B_ ⟨rfl, hB_⟩
 obtain rfl := hB_.symm
 refine aa rfl (ai rfl) (ag (ab (av (au (.inl rfl) (.cons (ak rfl) .nil) ?_))))
 rw [A2 hi (by omega) ht]
 exact ⟨_, ⟨rfl, rfl⟩, inferInstance⟩
theorem A4 (W0 : World) (R : List HP) (pb ps pm who n : Nat) (x : Im) (h : ImOk x) (h0 : 0 < x.fr.length) (a : Option Addr) (c : Nat) (ws : List Nat) (hw : who < 16) (h1 : 1 ≤ n) (h8 : n ≤ 8) (hf : jU x.pg 0 8) (hl : n ≤ (bJ x.po who).length)
    (hs : ∀ A, Ent A R → cq (bI W0 A) a 1 i7 ws) (hb : ∀ y ∈ ws, y < 4294967296) (hn : ws.length < 9223372036854775808) :
    aC Tryz.prog W0 88 [.pointer (some ⟨pb, 0, none⟩), .pointer (some ⟨ps, 0, none⟩), .pointer (some ⟨pm, 0, none⟩), .int .i64 who, .int .i64 n, .slice a ws.length c] (d6 pb (ps, x.po) :: cy ps x.fr :: pt pm (dv x.pg) :: R)
      (fun v B => v = .int .i64 0 ∧ B = d6 pb (ps, (cZ who (bH ws n) n x).po) :: cy ps (cZ who (bH ws n) n x).fr :: pt pm (dv (cZ who (bH ws n) n x).pg) :: R) := by
 have hlen := mf ws n
 have hcb : ∀ y ∈ bH ws n, y < 4294967296 := fun y hy => hb y (List.mem_of_mem_take hy)
 have hok : ∀ i, ImOk (cZ who (bH ws n) i x) := fun i => jT hw h
 have hfl : ∀ i, (cZ who (bH ws n) i x).fr.length = x.fr.length := fun i => by
  induction i with
  | zero => rfl
  | succ i ih =>
   rw [cZ, fm]
   split
   rw [(kP (hok i).fr).2]; exact ih
   exact ih
 refine aF func88 ntmps88 rfl rfl ?_
 refine ae (ah (am rfl (ji rfl rfl) ?_))
 rintro _ _ ⟨b6, rfl, rfl⟩
 refine am rfl (ji rfl rfl) ?_
 rintro _ _ ⟨b7, rfl, rfl⟩
 refine am rfl (ji rfl rfl) ?_
 rintro _ _ ⟨b8, rfl, rfl⟩
 refine am rfl (ji rfl rfl) ?_
 rintro _ _ ⟨b9, rfl, rfl⟩
 refine aa rfl (ai rfl) (ag (ab (ae (ae (ah (aa rfl (ap vU rfl (aA rfl)) ?_))))))
 refine aa rfl (ap kl rfl (aA rfl)) ?_
 refine aa rfl (ap vQ rfl (aA rfl)) ?_
 refine aa rfl (ap aM rfl (aA rfl)) ?_
 refine aa rfl (ac rfl) ?_
 refine am rfl (kG call200 rfl (A1 W0 _ pb ps pm who n x h h0 hw h1 h8 (fun i q1 q2 => hf i q1 (by omega)) hl)) ?_
 rintro _ B_ ⟨rfl, hB_⟩
 obtain rfl := hB_.symm
 refine aa rfl (ai rfl) (ag (ab (ae (ah (aa rfl (ac rfl) (aa rfl (co rfl rfl) (ag (ab ?_))))))))
 refine ax rfl ?_ ?_
 intro c2
 exact absurd c2 (by decide)
 intro c2
 refine aB (ab (ae (ah (aa rfl (ac rfl) (aa rfl (ac rfl) (am rfl (aS call87 rfl (uk a c n ws (hs _ inferInstance) h8 hn)) ?_))))))
 rintro _ B_ ⟨g, rfl, hB_⟩
 obtain rfl := hB_.symm
 refine am rfl (mV zeroValue98 rfl) ?_
 rintro _ _ ⟨b14, rfl, rfl⟩
 refine bE (ce mF rfl rfl rfl (Nat.le_of_ble_eq_true rfl) SetL.eq) ?_
 rintro _ _ rfl
 refine ag (ab (ae (ah (aa rfl (iZ rfl rfl) ?_))))
 refine aa rfl (ai rfl) (ag (ab (ae (ae (ah (aa rfl (ac rfl) (aa rfl (ac rfl) (ag (ab (b0 ?_))))))))))
 refine cC (fun i : Nat => i ≤ n) (fun i => [(15, .func (.func 201) #[] #[.pointer (some ⟨b6, 0, none⟩), .pointer (some ⟨b9, 0, none⟩), .pointer (some ⟨b14, 0, none⟩), .pointer (some ⟨b7, 0, none⟩), .pointer (some ⟨b8, 0, none⟩)]), (31, .int .i64 n), (32, .int .i64 i)]) (fun i => pt b6 (aw [.pointer (some ⟨pb, 0, none⟩)] 64) :: pt b9 (aw [.int .i64 who] 3) :: pt b14 (aw [.slice (some ⟨g, 0, none⟩) (bH ws n).length (bH ws n).length] 98) :: pt b7 (aw [.pointer (some ⟨ps, 0, none⟩)] 63) :: pt b8 (aw [.pointer (some ⟨pm, 0, none⟩)] 207) :: pt g (aw ((bH ws n).map wV) 42) :: d6 pb (ps, (cZ who (bH ws n) i x).po) :: cy ps (cZ who (bH ws n) i x).fr :: pt pm (dv (cZ who (bH ws n) i x).pg) :: R) (fun i => n - i) 0 ?_ ?_ ?_ ?_
 exact Nat.zero_le _
 · repeat (first | exact aX | refine aU rfl ?_)
 rw [show cZ who (bH ws n) 0 x = x from rfl]
 exact inferInstance
 intro i hi
 refine ae (ah (aa rfl (aY rfl rfl) (ag (ab (ae ?_)))))
 refine ax rfl ?_ ?_
 intro c7
 refine aB (ab (ae (b0 (ae (ah (aa rfl (ac rfl) (aa rfl (ai rfl) (ag (ab (ae ?_))))))))))
 have hin : i < n := by omega
 have hfr := pF (who := who) (words := bH ws n) (x := x) i
 have hpg := (pG (who := who) (words := bH ws n) hf h.pg.len i (by omega)).1
 obtain ⟨f, l, he⟩ : ∃ f l, bJ (cZ who (bH ws n) i x).po who = f :: l := by
  cases e : bJ (cZ who (bH ws n) i x).po who with
  | nil => rw [e] at hfr; simp at hfr; omega
  | cons f l => exact ⟨f, l, rfl⟩
 refine ah (aa rfl (ac rfl) (aa rfl (ac rfl) ?_))
 refine am rfl (p6 (us := []) (cs := [.pointer (some ⟨b6, 0, none⟩), .pointer (some ⟨b9, 0, none⟩), .pointer (some ⟨b14, 0, none⟩), .pointer (some ⟨b7, 0, none⟩), .pointer (some ⟨b8, 0, none⟩)]) rfl call201 rfl (A3 W0 R b6 b9 b14 b7 b8 g pb ps pm who i f l (cZ who (bH ws n) i x) (hok i) (bH ws n) hw (by omega) he (hpg i (Nat.le_refl _) (by omega)) hcb (by omega))) ?_
 rintro _ B_ ⟨rfl, hB_⟩
 obtain rfl := hB_.symm
 refine aa rfl (ai rfl) (ag (ab (ae (ah (aa rfl (ac rfl) (aa rfl (co rfl rfl) (ag (ab ?_))))))))
 refine ax rfl ?_ ?_
 intro c10
 exact absurd c10 (by decide)
 intro c10
 refine aB (bF (ab (ah ?_)))
 refine aa rfl (bC rfl rfl (by first | exact aW (by omega) | rfl)) ?_
 refine aa rfl (ac rfl) (ag (ab ?_))
 refine cp (i + 1) ?_ ?_ ?_ ?_
 omega
 omega
 · repeat (first | exact aX | refine aU rfl ?_)
 exact ent_refl
 intro c7
 refine bX (bi (bi (bZ (ab (ae (ah (aa rfl (ai rfl) (ag (ab (av (au (.inl rfl) (.cons (ak rfl) .nil) ?_)))))))))))
 obtain rfl : i = n := by omega
 exact ⟨_, ⟨rfl, rfl⟩, inferInstance⟩
@[reducible] def f2 (x : Int × Bool) : List Value := [.int .i64 x.1]
@[reducible] def f3 (x : Int × Bool) : List Value := [.bool x.2]
def cT (pb : Nat) (x : Nat × Po) : HP := chk (fun C => ∃ a c a2 c2, C = [pt pb (aw [.pointer (some ⟨x.1, 0, none⟩), .slice a x.2.length c, .slice a2 x.2.length c2] 344), osl 3 1 (.slice a x.2.length c) (x.2.flatMap f2), osl 4 1 (.slice a2 x.2.length c2) (x.2.flatMap f3)])
section
variable {P : Program} {W0 : World} {N : FSz} {K : Act → World → Prop} {e : bK} {A B R R1 R2 R3 : List HP} {pb ps n : Nat} {po : Po} {f : FuncId} {args : List Value} {Post : Value → List HP → Prop}
theorem mg (po : Po) : (po.flatMap f2).length = po.length := by rw [dm (k := 1) (fun _ => rfl)]; omega
theorem mh (po : Po) : (po.flatMap f3).length = po.length := by rw [dm (k := 1) (fun _ => rfl)]; omega
theorem um [hk : Tk cT pb A (ps, po) R] (h : ∀ a c a2 c2, aQ W0 N K e (pt pb (aw [.pointer (some ⟨ps, 0, none⟩), .slice a po.length c, .slice a2 po.length c2] 344) :: osl 3 1 (.slice a po.length c) (po.flatMap f2) :: osl 4 1 (.slice a2 po.length c2) (po.flatMap f3) :: R)) : aQ W0 N K e A :=
  dP (r := cT) (b := pb) (iM fun C hC => by obtain ⟨a, c, a2, c2, rfl⟩ := hC; exact h a c a2 c2)
theorem un {a a2 : Option Addr} {c c2 n2 : Nat} {xs ys : List Value} [h1 : Tk pt pb A (aw [.pointer (some ⟨ps, 0, none⟩), .slice a n c, .slice a2 n2 c2] 344) R1] [h2 : Tk (osl 3 1) (.slice a n c) R1 xs R2] [h3 : Tk (osl 4 1) (.slice a2 n2 c2) R2 ys R3]
    (hn : n = po.length) (hn2 : n2 = po.length) (hx : xs = po.flatMap f2) (hy : ys = po.flatMap f3) [k : Ent R3 B] : Ent A (cT pb (ps, po) :: B) := by
 subst hn; subst hn2; subst hx; subst hy
 exact (Ent.ofPerm (h1.perm.trans ((h2.perm.trans (h3.perm.cons _)).cons _))).trans ((Ent.cons (Ent.cons (Ent.cons k))).trans (eE (R := B) (C := [_, _, _]) ⟨a, c, a2, c2, rfl⟩))
theorem qJ [hk : Tk cT pb A (ps, po) R] (h0 : 0 < po.length) (h : ∀ g c g2 c2 sp sp2, po.length ≤ c → c ≤ maxLen → (po.flatMap f2 ++ sp).length = c * 1 → po.length ≤ c2 → c2 ≤ maxLen → (po.flatMap f3 ++ sp2).length = c2 * 1 →
    aQ W0 N K e (pt pb (aw [.pointer (some ⟨ps, 0, none⟩), .slice (some ⟨g, 0, none⟩) po.length c, .slice (some ⟨g2, 0, none⟩) po.length c2] 344) :: pt g (aw (po.flatMap f2 ++ sp) 3) :: pt g2 (aw (po.flatMap f3 ++ sp2) 4) :: R)) : aQ W0 N K e A := by
 refine um (pb := pb) fun a c a2 c2 => ?_
 refine dP (r := osl 3 1) (b := .slice a po.length c) ?_
 refine ge (fun h1 h2 => by have := congrArg List.length h2; rw [mg, List.length_nil] at this; omega) fun g n cap sp h1 h2 h3 h4 h5 => ?_
 cases h1
 refine dP (r := osl 4 1) (b := .slice a2 po.length c2) ?_
 refine ge (fun h1 h2 => by have := congrArg List.length h2; rw [mh, List.length_nil] at this; omega) fun g2 n2 cap2 sp2 k1 k2 k3 k4 k5 => ?_
 cases k1
 exact fJ inferInstance (h g c g2 c2 sp sp2 h2 h3 h5 k2 k3 k5)
theorem iP {g g2 c c2 n2 : Nat} {xs ys sp sp2 : List Value} [h1 : Tk pt pb A (aw [.pointer (some ⟨ps, 0, none⟩), .slice (some ⟨g, 0, none⟩) n c, .slice (some ⟨g2, 0, none⟩) n2 c2] 344) R1] [h2 : Tk pt g R1 (aw (xs ++ sp) 3) R2] [h3 : Tk pt g2 R2 (aw (ys ++ sp2) 4) R3]
    (hn : n = po.length) (hn2 : n2 = po.length) (hx : xs = po.flatMap f2) (hy : ys = po.flatMap f3) (a1 : n ≤ c) (a2 : c ≤ maxLen) (a3 : (xs ++ sp).length = c * 1) (b1 : n2 ≤ c2) (b2 : c2 ≤ maxLen) (b3 : (ys ++ sp2).length = c2 * 1) [k : Ent R3 B] : Ent A (cT pb (ps, po) :: B) := by
 have e3 : Ent R2 (osl 4 1 (.slice (some ⟨g2, 0, none⟩) n2 c2) ys :: B) := eP b1 b2 (by rw [hy, mh, hn2]; omega) b3
 have e2 : Ent R1 (osl 3 1 (.slice (some ⟨g, 0, none⟩) n c) xs :: osl 4 1 (.slice (some ⟨g2, 0, none⟩) n2 c2) ys :: B) := eP (k := e3) a1 a2 (by rw [hx, mg, hn]; omega) a3
 refine (Ent.ofPerm h1.perm).trans ((Ent.cons e2).trans ?_)
 exact un hn hn2 hx hy
end
theorem nP {po : Po} {sp : List Value} {i : Nat} (hi : i < po.length) : (po.flatMap f2 ++ sp)[i * 1]? = some (.int .i64 (cW po i).1) := by
 have := iY (f := f2) (k := 1) (fun _ => rfl) po i 0 sp hi (by decide)
 rw [Nat.add_zero] at this
 rw [this]; simp [f2, cW, List.getD, hi]
theorem qK {po : Po} {sp : List Value} {i : Nat} (hi : i < po.length) : (po.flatMap f3 ++ sp)[i * 1]? = some (.bool (cW po i).2) := by
 have := iY (f := f3) (k := 1) (fun _ => rfl) po i 0 sp hi (by decide)
 rw [Nat.add_zero] at this
 rw [this]; simp [f3, cW, List.getD, hi]
theorem uo {po : Po} {sp : List Value} {i : Nat} {v : Int} {t : Bool} (hi : i < po.length) : (po.flatMap f2 ++ sp).set (i * 1) (.int .i64 v) = (po.set i (v, t)).flatMap f2 ++ sp := by
 have := lP (f := f2) (k := 1) (fun _ => rfl) po i 0 (.int .i64 v) (v, t) sp hi (by decide) (by simp [f2])
 rwa [Nat.add_zero] at this
theorem uq {po : Po} {sp : List Value} {i : Nat} {v : Int} {t : Bool} (hi : i < po.length) : (po.flatMap f3 ++ sp).set (i * 1) (.bool t) = (po.set i (v, t)).flatMap f3 ++ sp := by
 have := lP (f := f3) (k := 1) (fun _ => rfl) po i 0 (.bool t) (v, t) sp hi (by decide) (by simp [f3])
 rwa [Nat.add_zero] at this
theorem A5 {po : Po} {i : Nat} {t : Bool} (hi : i < po.length) : (po.set i ((cW po i).1, t)).flatMap f2 = po.flatMap f2 := by
 have h := uo (po := po) (sp := []) (i := i) (v := (cW po i).1) (t := t) hi
 rw [List.append_nil, List.append_nil, Nat.mul_one] at h
 rw [← h]
 refine pW ?_
 have := nP (po := po) (sp := []) hi
 rwa [List.append_nil, Nat.mul_one] at this
theorem A6 {po : Po} {i : Nat} {v : Int} (hi : i < po.length) : (po.set i (v, (cW po i).2)).flatMap f3 = po.flatMap f3 := by
 have h := uq (po := po) (sp := []) (i := i) (v := v) (t := (cW po i).2) hi
 rw [List.append_nil, List.append_nil, Nat.mul_one] at h
 rw [← h]
 refine pW ?_
 have := qK (po := po) (sp := []) hi
 rwa [List.append_nil, Nat.mul_one] at this
theorem A7 (W0 : World) (R : List HP) (qs : Nat) (fr : List bW) (f : Nat) (hf : f < fr.length) :
    aC Tryz.prog W0 193 [.pointer (some ⟨qs, 0, none⟩), .int .i64 f] (cD qs fr :: R) (fun v B => v = .int .i64 0 ∧ B = cD qs (fr.set f bT) :: R) := by
 have hi : dH fr.length f = true := by simp only [dH, decide_eq_true_eq]; omega
 refine aF func193 ntmps193 rfl rfl ?_
 refine ae (ah (aa rfl (ai rfl) (ag (ab (ae (ae (ah (aa rfl (ac rfl) (aa rfl (ac rfl) (am rfl (bz oE rfl (mc W0 _ qs fr f)) ?_))))))))))
 rintro _ B_ ⟨rfl, hB_⟩
 obtain rfl := hB_.symm
 refine aa rfl (bN rfl) (ag (ab ?_))
 refine ax rfl ?_ ?_
 intro c1
 exact absurd c1 (by simp [hi])
 intro c1
 refine aB (ab (ae ?_))
 refine qB (qs := qs) hf fun a c vs vi hv hvi => ?_
 refine kY (E := 174) (sz := 1) (v := .slice a fr.length c) (fun h1 h2 => by have := (Value.slice.inj h1).2.1; omega) fun g n c' sp h1 h2 h3 h4 h5 => ?_
 cases h1
 refine cY [(qs, 0, _)] 8 cV rfl (aV aK) (fun hS => ?_)
 refine aj 0 rfl rfl (by kernel_rfl) (by kernel_rfl) (by kernel_rfl) rfl hS (ac rfl) ?_
 refine aj 1 rfl rfl (by kernel_rfl) (by kernel_rfl) (by kernel_rfl) rfl hS (aH rfl) ?_
 refine aj 2 rfl rfl (by kernel_rfl) (by kernel_rfl) (by kernel_rfl) rfl hS (ao rfl gX rfl g6 rfl (by first | exact Nat.zero_add _ | rfl)) ?_
 refine aj 3 rfl rfl (by kernel_rfl) (by kernel_rfl) (by kernel_rfl) rfl hS (ap iG rfl (aG (k := 0) rfl rfl)) ?_
 refine aj 4 rfl rfl (by kernel_rfl) (by kernel_rfl) (by kernel_rfl) rfl hS (ac rfl) ?_
 refine bB 5 (by kernel_rfl) rfl rfl (lV (sz := 1) (by_ := 1) (info := Tryz.t5) dE (by kernel_rfl) rfl rfl rfl rfl (by decide) rfl rfl rfl rfl (by decide) (by decide)) rfl ?_; clear hS
 rintro _ _ ⟨g3, rfl, rfl⟩
 refine ⟨(aV aK), fun hS => ?_⟩
 refine aj 6 rfl rfl (by kernel_rfl) (by kernel_rfl) (by kernel_rfl) rfl hS (bY gL jB rfl rfl rfl hf (by first | exact Nat.zero_add _ | rfl)) ?_
 refine bB 7 (by kernel_rfl) rfl rfl (ce jB rfl rfl rfl (by rw [List.length_append]; omega) (by rw [Nat.mul_one, List.set_append_left _ _ (by omega)])) rfl ?_; clear hS
 rintro _ _ rfl
 refine ⟨(aV aK), fun hS => ?_⟩
 refine cg (by kernel_rfl) ?_; clear hS
 refine ab (ae (ah (aa rfl (ai rfl) (ag (ab (av (au (.inl rfl) (.cons (ak rfl) .nil) ?_)))))))
 exact ⟨_, ⟨rfl, rfl⟩, qC (vs := vs) (vi := .slice (some ⟨g3, 0, none⟩) 64 64) (y := bT) (sp2 := []) rfl rfl rfl hv rfl hf h2 h3 (by rw [← h5]; simp) (by decide) (by decide) rfl rfl⟩
theorem A8 (n : Nat) : (List.replicate n ((-1 : Int), false)).flatMap f2 ++ [[Value.int .i64 (-1)]].flatten = (List.replicate (n + 1) ((-1 : Int), false)).flatMap f2 := by
 rw [List.replicate_succ', List.flatMap_append]; rfl
theorem A9 (n : Nat) : (List.replicate n ((-1 : Int), false)).flatMap f3 ++ [[Value.bool false]].flatten = (List.replicate (n + 1) ((-1 : Int), false)).flatMap f3 := by
 rw [List.replicate_succ', List.flatMap_append]; rfl
section
variable {A B R R2 : List HP} {qs n c : Nat} {a : Option Addr} {fr : List bW} {vs : List Value}
theorem ut {x : HP} (hv : vs.length = fr.length) : Ent (pt qs (aw [.slice a fr.length c] 193) :: osl 174 1 (.slice a fr.length c) vs :: ((vs.zip fr).map dN ++ (x :: R))) (cD qs fr :: x :: R) := ka (vs := vs) hv rfl
theorem Aa {x : HP} (hv : vs.length = fr.length) : Ent (pt qs (aw [.slice a fr.length c] 193) :: osl 174 1 (.slice a fr.length c) vs :: ((vs.zip fr).map dN ++ (x :: R))) (x :: cD qs fr :: R) := (ut hv).trans (Ent.ofPerm (List.Perm.swap _ _ _))
end
theorem Ab {B : List HP} {pb ps : Nat} : Ent (pt pb (aw [.pointer (some ⟨ps, 0, none⟩), eG, eG] 344) :: B) (cT pb (ps, []) :: B) :=
  (Ent.cons (fb (E := 3) (sz := 1) (k := fb (E := 4) (sz := 1) (A := B) (B := B)))).trans (eE (R := B) (C := [_, _, _]) ⟨none, 0, none, 0, rfl⟩)
theorem Ac (W0 : World) (R : List HP) (qs : Nat) (fr : List bW) (h0 : 0 < fr.length) (h32 : fr.length ≤ 32) :
    aC Tryz.prog W0 78 [.pointer (some ⟨qs, 0, none⟩)] (cD qs fr :: R)
      (fun v B => ∃ pb, v = .tuple #[.pointer (some ⟨pb, 0, none⟩), .int .i64 0] ∧ B = cT pb (qs, List.replicate fr.length (-1, false)) :: cD qs fr :: R) := by
 refine aF func78 ntmps78 rfl rfl ?_
 refine ae (ah (aa rfl (ai rfl) (aa rfl (ai rfl) (ag (ab (ae (ae ?_)))))))
 refine k0 (qs := qs) fun a c vs hv => ?_
 refine ah (aa rfl (ac rfl) (aa rfl (dl CE rfl rfl) (aa rfl (ac rfl) ?_)))
 refine bA rfl rfl rfl ?_ ?_
 intro g1_3
 cases g1_3
 intro g1_3
 refine aa rfl (ac rfl) (ar rfl rfl (aa rfl (aH rfl) (ar rfl rfl ?_)))
 refine aa rfl (ao rfl gX rfl g6 rfl (by first | exact Nat.zero_add _ | rfl)) ?_
 refine ar rfl rfl (aa rfl (ap iG rfl (aA rfl)) ?_)
 refine ar rfl rfl (aa rfl (bq gL rfl) (ar rfl rfl (aa rfl (cz rfl rfl) (aa rfl (aJ rfl rfl) (ag (ab ?_))))))
 refine ax rfl ?_ ?_
 intro c1
 omega
 intro c1
 refine aB (ab (ae (ah (aa rfl (ac rfl) (aa rfl (bQ fI zeroValue344 (aE jf (aE d9 (aE jC bP))) (bn rfl jf rfl rfl (Nat.le_of_ble_eq_true rfl) SetL.eq bO)) ?_)))))
 refine am rfl (bL rfl) ?_
 rintro _ _ ⟨pb, rfl, rfl⟩
 refine aa rfl (ai rfl) (ag (ab (ae (ae (ah (aa rfl (ai rfl) (ag (ab (b0 ?_)))))))))
 refine cC (fun X : Nat => X ≤ fr.length) (fun X => [(0, .pointer (some ⟨qs, 0, none⟩)), (4, .pointer (some ⟨pb, 0, none⟩)), (5, .int .i64 X)]) (fun X => cT pb (qs, List.replicate X (-1, false)) :: cD qs fr :: R) (fun X => fr.length - X) 0 ?_ ?_ ?_ ?_
 exact Nat.zero_le _
 · repeat (first | exact aX | refine aU rfl ?_)
 exact (Ent.cons (ka (vs := vs) hv rfl)).trans Ab
 intro i hi
 refine ae (ae ?_)
 refine k0 (qs := qs) fun a c vs hv => ?_
 refine ah (aa rfl (ac rfl) (aa rfl (ac rfl) (aa rfl (aH rfl) ?_)))
 refine aa rfl (ao rfl gX rfl g6 rfl (by first | exact Nat.zero_add _ | rfl)) ?_
 refine aa rfl (ap iG rfl (aA rfl)) ?_
 refine aa rfl (bq gL rfl) (aa rfl (aY rfl rfl) (ag (ab ?_)))
 refine ax rfl ?_ ?_
 intro c5
 refine aB (ab (ae (b0 (ae (fJ (B := cD qs fr :: cT pb (qs, List.replicate i (-1, false)) :: R) (ut hv) ?_)))))
 refine um (pb := pb) fun a c a2 c2 => ?_
 refine ah (aa rfl (ac rfl) (aa rfl (ac rfl) (aa rfl (aH rfl) ?_)))
 refine aa rfl (ao rfl fI rfl d9 rfl (by first | exact Nat.zero_add _ | rfl)) ?_
 refine aa rfl (ap eA rfl (aA rfl)) ?_
 refine am rfl (fK dt az ln rfl rfl rfl rfl rfl (by decide) (by decide)) ?_
 rintro _ _ ⟨b2, rfl, rfl⟩
 refine am rfl (dL (sz := 1) (by_ := 8) (info := Tryz.t3) dt (by kernel_rfl) rfl rfl rfl rfl (by decide) rfl rfl dM rfl rfl (by simp only [maxLen, List.length_replicate]; omega) (by rw [List.length_replicate]; omega)) ?_
 rintro _ _ ⟨a3, c3, rfl, rfl⟩
 refine aa rfl (aH rfl) ?_
 refine aa rfl (ao rfl fI rfl d9 rfl (by first | exact Nat.zero_add _ | rfl)) ?_
 refine bE (ce d9 rfl rfl rfl (Nat.le_of_ble_eq_true rfl) SetL.eq) ?_
 rintro _ _ rfl
 refine ag (ab (ah (aa rfl (ac rfl) (aa rfl (ac rfl) (aa rfl (aH rfl) ?_)))))
 refine aa rfl (ao rfl fI rfl jC rfl (by first | exact Nat.zero_add _ | rfl)) ?_
 refine aa rfl (ap mG rfl (aA rfl)) ?_
 refine am rfl (fK lx cB zeroValue4 rfl rfl rfl rfl rfl (by decide) (by decide)) ?_
 rintro _ _ ⟨b3, rfl, rfl⟩
 refine am rfl (dL (sz := 1) (by_ := 1) (info := Tryz.t4) lx (by kernel_rfl) rfl rfl rfl rfl (by decide) rfl rfl dM rfl rfl (by simp only [maxLen, List.length_replicate]; omega) (by rw [List.length_replicate]; omega)) ?_
 rintro _ _ ⟨a4, c4, rfl, rfl⟩
 refine aa rfl (aH rfl) ?_
 refine aa rfl (ao rfl fI rfl jC rfl (by first | exact Nat.zero_add _ | rfl)) ?_
 refine bE (ce jC rfl rfl rfl (Nat.le_of_ble_eq_true rfl) SetL.eq) ?_
 rintro _ _ rfl
 refine ag (bF (ab (ah (aa rfl (ac rfl) ?_))))
 refine aa rfl (bC rfl rfl (by first | exact aW (by omega) | rfl)) ?_
 refine aa rfl (ai rfl) (ag (ab ?_))
 refine cp (i + 1) ?_ ?_ ?_ ?_
 omega
 omega
 · repeat (first | exact aX | refine aU rfl ?_)
 exact un (by simp) (by simp) (A8 i) (A9 i)
 intro c5
 refine bX (bi (bi (bZ (ab (ae (ah (aa rfl (ac rfl) (aa rfl (ai rfl) (aa rfl (ai rfl) (ag (ab (av (au (.inl rfl) (.cons (ak rfl) (.cons (ak rfl) .nil)) ?_)))))))))))))
 obtain rfl : i = fr.length := by omega
 exact ⟨_, ⟨pb, rfl, rfl⟩, Aa hv⟩
theorem Ad {po : Po} {sp : List Value} {i : Nat} (hi : i < po.length) : i * 1 + 1 ≤ (po.flatMap f2 ++ sp).length := by rw [List.length_append, mg]; omega
theorem Ae {po : Po} {sp : List Value} {i : Nat} (hi : i < po.length) : i * 1 + 1 ≤ (po.flatMap f3 ++ sp).length := by rw [List.length_append, mh]; omega
theorem Af (W0 : World) (R : List HP) (pb qs : Nat) (po : Po) (fr : List bW) (f w : Nat) (hf : f < po.length) (hff : f < fr.length) (hw : w < 16) (ha : cW po f = (-1, false)) :
    aC Tryz.prog W0 80 [.pointer (some ⟨pb, 0, none⟩), .int .i64 f, .int .i64 w] (cT pb (qs, po) :: cD qs fr :: R)
      (fun v B => v = .int .i64 0 ∧ B = cT pb (qs, po.set f ((w : Int), false)) :: cD qs (fr.set f bT) :: R) := by
 have hi : dH fr.length f = true := by simp only [dH, decide_eq_true_eq]; omega
 have hts : (po.set f ((w : Int), false)).flatMap f3 = po.flatMap f3 := by
  have := A6 (po := po) (i := f) (v := (w : Int)) hf
  rwa [ha] at this
 refine aF func80 ntmps80 rfl rfl ?_
 refine ae (ah (aa rfl (ai rfl) (ag (ab (ae (ae ?_))))))
 refine qJ (pb := pb) (by omega) fun g c g2 c2 sp sp2 h1 h2 h3 k1 k2 k3 => ?_
 refine ah (aa rfl (ac rfl) (aa rfl (aH rfl) ?_))
 refine aa rfl (ao rfl fI rfl jf rfl (by first | exact Nat.zero_add _ | rfl)) ?_
 refine aa rfl (ap rI rfl (aA rfl)) ?_
 refine aa rfl (ac rfl) (am rfl (bz oE rfl (mc W0 _ qs fr f)) ?_)
 rintro _ B_ ⟨rfl, hB_⟩
 obtain rfl := hB_.symm
 refine aa rfl (bN rfl) (aa rfl (ac rfl) ?_)
 refine bA rfl rfl rfl ?_ ?_
 intro g1_8
 exact absurd g1_8 (by simp [hi])
 intro g1_8
 refine aa rfl (ac rfl) (ar rfl rfl (aa rfl (aY rfl rfl) (aa rfl (aJ rfl rfl) (aa rfl (ac rfl) ?_))))
 refine bA rfl rfl rfl ?_ ?_
 intro g1_12
 omega
 intro g1_12
 refine aa rfl (ac rfl) (ar rfl rfl (aa rfl (cF rfl rfl) (aa rfl (aJ rfl rfl) (ag (ab ?_)))))
 refine ax rfl ?_ ?_
 intro c1
 omega
 intro c1
 refine aB (ab (ae (ae (ah (aa rfl (ac rfl) (aa rfl (aH rfl) ?_))))))
 refine aa rfl (ao rfl fI rfl d9 rfl (by first | exact Nat.zero_add _ | rfl)) ?_
 refine aa rfl (ap eA rfl (aA rfl)) ?_
 refine aa rfl (ac rfl) ?_
 refine aa rfl (bY dt az rfl rfl rfl hf (by first | exact Nat.zero_add _ | rfl)) ?_
 refine aa rfl (ap aM rfl (aA (nP hf))) ?_
 refine aa rfl (cF rfl rfl) (ag (ab ?_))
 refine ax rfl ?_ ?_
 intro c3
 exact absurd c3 (by rw [ha]; decide)
 intro c3
 refine aB (ab (ae (ah (aa rfl (ac rfl) (aa rfl (aH rfl) ?_)))))
 refine aa rfl (ao rfl fI rfl d9 rfl (by first | exact Nat.zero_add _ | rfl)) ?_
 refine aa rfl (ap eA rfl (aA rfl)) ?_
 refine aa rfl (ac rfl) (aa rfl (ac rfl) ?_)
 refine aa rfl (bY dt az rfl rfl rfl hf (by first | exact Nat.zero_add _ | rfl)) ?_
 refine bE (ce az rfl rfl rfl (Ad hf) (uo (t := false) hf)) ?_
 rintro _ _ rfl
 refine ag (ab (ae (ah (aa rfl (ac rfl) (aa rfl (aH rfl) ?_)))))
 refine aa rfl (ao rfl fI rfl jf rfl (by first | exact Nat.zero_add _ | rfl)) ?_
 refine aa rfl (ap rI rfl (aA rfl)) ?_
 refine aa rfl (ac rfl) (am rfl (bz call193 rfl (A7 W0 _ qs fr f hff)) ?_)
 rintro _ B_ ⟨rfl, hB_⟩
 obtain rfl := hB_.symm
 refine ag (ab (ae (ah (aa rfl (ai rfl) (ag (ab (av (au (.inl rfl) (.cons (ak rfl) .nil) ?_))))))))
 exact ⟨_, ⟨rfl, rfl⟩, iP (by simp) (by simp) rfl hts.symm h1 h2 (by rw [List.length_append, mg, List.length_set, ← mg, ← List.length_append]; exact h3) k1 k2 k3⟩
def gR (po : Po) (w : Int) (k : Nat) : Nat := ((List.range k).filter fun f => decide (cW po f = (w, false))).length
theorem uu (po : Po) (w : Nat) : gR po w po.length = (bJ po w).length := by
 rw [gR, bJ]; congr 2; funext f; rw [Bool.eq_iff_iff, decide_eq_true_iff, beq_iff_eq]
theorem Ag (po : Po) (w : Int) (k : Nat) : gR po w (k + 1) = gR po w k + if cW po k = (w, false) then 1 else 0 := by
 rw [gR, List.range_succ, List.filter_append, List.length_append, gR]
 congr 1
 by_cases h : cW po k = (w, false)
 simp [h]
 simp [h]
theorem Ah (po : Po) (w : Int) (k : Nat) : gR po w k ≤ k := by
 have := List.length_filter_le (fun f => decide (cW po f = (w, false))) (List.range k)
 rwa [List.length_range] at this
theorem Ai (W0 : World) (R : List HP) (pb qs : Nat) (po : Po) (w : Nat) (h0 : 0 < po.length) (h32 : po.length ≤ 32) :
    aC Tryz.prog W0 307 [.pointer (some ⟨pb, 0, none⟩), .int .i64 w] (cT pb (qs, po) :: R) (fun v B => v = .int .i64 ((bJ po w).length : Nat) ∧ B = cT pb (qs, po) :: R) := by
 refine aF func307 ntmps307 rfl rfl ?_
 refine ae (ah (aa rfl (ai rfl) (ag (ab (ae (ah (aa rfl (ai rfl) (ag (ab (ae (ae (ah (aa rfl (ai rfl) (ag (ab (b0 ?_))))))))))))))))
 refine cC (fun i : Nat => i ≤ po.length) (fun i => [(0, .pointer (some ⟨pb, 0, none⟩)), (1, .int .i64 w), (5, .int .i64 (gR po w i : Nat)), (6, .int .i64 i)]) (fun _ => cT pb (qs, po) :: R) (fun i => po.length - i) 0 ?_ ?_ ?_ ?_
 exact Nat.zero_le _
 · repeat (first | exact aX | refine aU rfl ?_)
 exact inferInstance
 intro i hi
 refine qJ (pb := pb) (by omega) fun g c g2 c2 sp sp2 h1 h2 h3 k1 k2 k3 => ?_
 have hle := Ah po w i
 refine ae (ae (ah (aa rfl (ac rfl) (aa rfl (ac rfl) (aa rfl (aH rfl) ?_)))))
 refine aa rfl (ao rfl fI rfl d9 rfl (by first | exact Nat.zero_add _ | rfl)) ?_
 refine aa rfl (ap eA rfl (aA rfl)) ?_
 refine aa rfl (bq dt rfl) (aa rfl (aY rfl rfl) (aa rfl (ac rfl) ?_))
 refine cG rfl rfl rfl ?_ ?_
 intro g3_8
 refine aa rfl (ac rfl) (ar rfl rfl (aa rfl (ac rfl) (ar rfl rfl (aa rfl (aH rfl) (ar rfl rfl ?_)))))
 refine aa rfl (ao rfl fI rfl jC rfl (by first | exact Nat.zero_add _ | rfl)) ?_
 refine ar rfl rfl (aa rfl (ap mG rfl (aA rfl)) ?_)
 refine ar rfl rfl (aa rfl (bq lx rfl) (ar rfl rfl (aa rfl (aY rfl rfl) (aa rfl (aT rfl rfl) (ag (ab ?_))))))
 refine ax rfl ?_ ?_
 intro c3
 refine aB (ab ?_)
 refine gM (fun n : Nat => n = gR po w (i + 1) ∧ i < po.length) (fun n => [(0, .pointer (some ⟨pb, 0, none⟩)), (1, .int .i64 w), (5, .int .i64 n), (6, .int .i64 i)]) (fun _ => cT pb (qs, po) :: R) ?_ ?_
 skip
 refine b0 (ae ?_)
 have hi1 : i < po.length := by omega
 have hs := Ag po w i
 refine ah (aa rfl (ac rfl) (aa rfl (aH rfl) ?_))
 refine aa rfl (ao rfl fI rfl d9 rfl (by first | exact Nat.zero_add _ | rfl)) ?_
 refine aa rfl (ap eA rfl (aA rfl)) ?_
 refine aa rfl (ac rfl) ?_
 refine aa rfl (bY dt az rfl rfl rfl hi1 (by first | exact Nat.zero_add _ | rfl)) ?_
 refine aa rfl (ap aM rfl (aA (nP hi1))) ?_
 refine aa rfl (ac rfl) (aa rfl (cz rfl rfl) (aa rfl (ac rfl) ?_))
 refine cG rfl rfl rfl ?_ ?_
 intro g5_10
 refine aa rfl (ac rfl) (ar rfl rfl (aa rfl (cF rfl rfl) (aa rfl (aT rfl rfl) (aa rfl (ac rfl) ?_))))
 refine cG rfl rfl rfl ?_ ?_
 intro g5_14
 refine aa rfl (ac rfl) (ar rfl rfl (aa rfl (aH rfl) (ar rfl rfl ?_)))
 refine aa rfl (ao rfl fI rfl jC rfl (by first | exact Nat.zero_add _ | rfl)) ?_
 refine ar rfl rfl (aa rfl (ap mG rfl (aA rfl)) ?_)
 refine ar rfl rfl (aa rfl (ac rfl) (ar rfl rfl ?_))
 refine aa rfl (bY lx cB rfl rfl rfl hi1 (by first | exact Nat.zero_add _ | rfl)) ?_
 refine ar rfl rfl (aa rfl (ap ib rfl (aA (qK hi1))) ?_)
 refine ar rfl rfl (aa rfl (bN rfl) (aa rfl (aT rfl rfl) (ag (ab ?_))))
 refine ax rfl ?_ ?_
 intro c5
 refine ah (aa rfl (ac rfl) ?_)
 refine aa rfl (bC rfl rfl (aW (by omega))) ?_
 refine aa rfl (ai rfl) (ag (bF (ab ?_)))
 refine dK (gR po w i + 1) ?_ ?_ ?_
 · refine ⟨?_, hi1⟩
   rw [hs, if_pos (by rw [show cW po i = ((cW po i).1, (cW po i).2) from rfl]; first | (congr 1; simp_all; done) | (rw [Prod.mk.injEq]; simp_all))]
 · repeat (first | exact aX | refine aU rfl ?_)
 exact iP rfl rfl rfl rfl h1 h2 h3 k1 k2 k3
 intro c5
 refine aB (bF (ab ?_))
 refine dK (gR po w i) ?_ ?_ ?_
 refine ⟨?_, hi1⟩
 rw [hs, if_neg (by intro q; have q1 := congrArg Prod.fst q; have q2 := congrArg Prod.snd q; simp_all)]; rfl
 · repeat (first | exact aX | refine aU rfl ?_)
 exact iP rfl rfl rfl rfl h1 h2 h3 k1 k2 k3
 intro g5_14
 refine al rfl rfl rfl rfl (al rfl rfl rfl rfl (al rfl rfl rfl rfl (al rfl rfl rfl rfl (al rfl rfl rfl rfl (al rfl rfl rfl rfl (al rfl rfl rfl rfl (aa rfl (aJ rfl rfl) (ag (ab (eL rfl (aB (bF (ab ?_)))))))))))))
 refine dK (gR po w i) ?_ ?_ ?_
 refine ⟨?_, hi1⟩
 rw [hs, if_neg (by intro q; have q1 := congrArg Prod.fst q; have q2 := congrArg Prod.snd q; simp_all)]; rfl
 · repeat (first | exact aX | refine aU rfl ?_)
 exact iP rfl rfl rfl rfl h1 h2 h3 k1 k2 k3
 intro g5_10
 refine al rfl rfl rfl rfl (aa rfl (aJ rfl rfl) (aa rfl (ac rfl) (al rfl rfl rfl rfl (al rfl rfl rfl rfl (al rfl rfl rfl rfl (al rfl rfl rfl rfl (al rfl rfl rfl rfl (al rfl rfl rfl rfl (al rfl rfl rfl rfl (al rfl rfl rfl rfl (aa rfl (aJ rfl rfl) (ag (ab (eL rfl (aB (bF (ab ?_)))))))))))))))))
 refine dK (gR po w i) ?_ ?_ ?_
 refine ⟨?_, hi1⟩
 rw [hs, if_neg (by intro q; have q1 := congrArg Prod.fst q; have q2 := congrArg Prod.snd q; simp_all)]; rfl
 · repeat (first | exact aX | refine aU rfl ?_)
 exact iP rfl rfl rfl rfl h1 h2 h3 k1 k2 k3
 intro n ⟨hn, hi1⟩
 subst hn
 refine ah (aa rfl (ac rfl) ?_)
 refine aa rfl (bC rfl rfl (aW (by omega))) ?_
 refine aa rfl (ai rfl) (ag (ab ?_))
 refine cp (i + 1) ?_ ?_ ?_ ?_
 omega
 omega
 · repeat (first | exact aX | refine aU rfl ?_)
 exact inferInstance
 intro c3
 refine bX (bi (bi (bZ (ab (ae (ah (aa rfl (ac rfl) (aa rfl (ai rfl) (ag (ab (av (au (.inl rfl) (.cons (ak rfl) .nil) ?_))))))))))))
 obtain rfl : i = po.length := by omega
 rw [uu]
 exact ⟨_, ⟨rfl, rfl⟩, iP rfl rfl rfl rfl h1 h2 h3 k1 k2 k3⟩
 intro g3_8
 refine al rfl rfl rfl rfl (al rfl rfl rfl rfl (al rfl rfl rfl rfl (al rfl rfl rfl rfl (al rfl rfl rfl rfl (al rfl rfl rfl rfl (aa rfl (aJ rfl rfl) (ag (ab (eL rfl (bX (bi (bi (bZ (ab (ae (ah (aa rfl (ac rfl) (aa rfl (ai rfl) (ag (ab (av (au (.inl rfl) (.cons (ak rfl) .nil) ?_))))))))))))))))))))))
 obtain rfl : i = po.length := by omega
 rw [uu]
 exact ⟨_, ⟨rfl, rfl⟩, iP rfl rfl rfl rfl h1 h2 h3 k1 k2 k3⟩
theorem Aj (W0 : World) (R : List HP) (pb qs : Nat) (po : Po) (w f : Nat) (l : List Nat) (hw : w < 16) (h32 : po.length ≤ 32) (he : bJ po w = f :: l) :
    aC Tryz.prog W0 309 [.pointer (some ⟨pb, 0, none⟩), .int .i64 w] (cT pb (qs, po) :: R)
      (fun v B => v = .tuple #[.int .i64 f, .int .i64 0] ∧ B = cT pb (qs, po.set f ((w : Int), true)) :: R) := by
 have hf := gD.1 (show f ∈ bJ po w by rw [he]; simp)
 have hlow : ∀ j, j < f → cW po j ≠ ((w : Int), false) := fun j hj q => by
  have hm := gD.2 ⟨by have := hf.1; omega, q⟩
  have hs := nq po w
  rw [he] at hm hs
  rw [List.pairwise_cons] at hs
  rcases List.mem_cons.1 hm with k | k
  omega
  have := hs.1 j k; omega
 have hws : (po.set f ((w : Int), true)).flatMap f2 = po.flatMap f2 := by
  have := A5 (po := po) (i := f) (t := true) hf.1
  rwa [hf.2] at this
 refine aF func309 ntmps309 rfl rfl ?_
 refine ae (ah (aa rfl (ai rfl) (aa rfl (ai rfl) (ag (ab (ae (ae (ah (aa rfl (ac rfl) (aa rfl (aY rfl rfl) (aa rfl (ac rfl) ?_)))))))))))
 refine bA rfl rfl rfl ?_ ?_
 intro g1_3
 omega
 intro g1_3
 refine aa rfl (ac rfl) (ar rfl rfl (aa rfl (cF rfl rfl) (aa rfl (aJ rfl rfl) (ag (ab ?_)))))
 refine ax rfl ?_ ?_
 intro c1
 omega
 intro c1
 refine aB (ab (ae (ae (ah (aa rfl (ai rfl) (ag (ab (b0 ?_))))))))
 refine cC (fun i : Nat => i ≤ f) (fun i => [(0, .pointer (some ⟨pb, 0, none⟩)), (1, .int .i64 w), (6, .int .i64 i)]) (fun _ => cT pb (qs, po) :: R) (fun i => po.length - i) 0 ?_ ?_ ?_ ?_
 exact Nat.zero_le _
 · repeat (first | exact aX | refine aU rfl ?_)
 exact inferInstance
 intro i hi
 have hfl := hf.1
 refine qJ (pb := pb) (by omega) fun g c g2 c2 sp sp2 h1 h2 h3 k1 k2 k3 => ?_
 refine ae (ae (ah (aa rfl (ac rfl) (aa rfl (ac rfl) (aa rfl (aH rfl) ?_)))))
 refine aa rfl (ao rfl fI rfl d9 rfl (by first | exact Nat.zero_add _ | rfl)) ?_
 refine aa rfl (ap eA rfl (aA rfl)) ?_
 refine aa rfl (bq dt rfl) (aa rfl (aY rfl rfl) (aa rfl (ac rfl) ?_))
 refine cG rfl rfl rfl ?_ ?_
 intro g4_8
 refine aa rfl (ac rfl) (ar rfl rfl (aa rfl (ac rfl) (ar rfl rfl (aa rfl (aH rfl) (ar rfl rfl ?_)))))
 refine aa rfl (ao rfl fI rfl jC rfl (by first | exact Nat.zero_add _ | rfl)) ?_
 refine ar rfl rfl (aa rfl (ap mG rfl (aA rfl)) ?_)
 refine ar rfl rfl (aa rfl (bq lx rfl) (ar rfl rfl (aa rfl (aY rfl rfl) (aa rfl (aT rfl rfl) (ag (ab ?_))))))
 refine ax rfl ?_ ?_
 intro c4
 refine aB (ab (ae (b0 (ae ?_))))
 have hi1 : i < po.length := by omega
 refine ah (aa rfl (ac rfl) (aa rfl (aH rfl) ?_))
 refine aa rfl (ao rfl fI rfl d9 rfl (by first | exact Nat.zero_add _ | rfl)) ?_
 refine aa rfl (ap eA rfl (aA rfl)) ?_
 refine aa rfl (ac rfl) ?_
 refine aa rfl (bY dt az rfl rfl rfl hi1 (by first | exact Nat.zero_add _ | rfl)) ?_
 refine aa rfl (ap aM rfl (aA (nP hi1))) ?_
 refine aa rfl (ac rfl) (aa rfl (cz rfl rfl) (aa rfl (ac rfl) ?_))
 refine cG rfl rfl rfl ?_ ?_
 intro g6_10
 refine aa rfl (ac rfl) (ar rfl rfl (aa rfl (aH rfl) (ar rfl rfl ?_)))
 refine aa rfl (ao rfl fI rfl jC rfl (by first | exact Nat.zero_add _ | rfl)) ?_
 refine ar rfl rfl (aa rfl (ap mG rfl (aA rfl)) ?_)
 refine ar rfl rfl (aa rfl (ac rfl) (ar rfl rfl ?_))
 refine aa rfl (bY lx cB rfl rfl rfl hi1 (by first | exact Nat.zero_add _ | rfl)) ?_
 refine ar rfl rfl (aa rfl (ap ib rfl (aA (qK hi1))) ?_)
 refine ar rfl rfl (aa rfl (bN rfl) (aa rfl (aT rfl rfl) (ag (ab ?_))))
 refine ax rfl ?_ ?_
 intro c6
 refine ae ?_
 have hif : i = f := by
  rcases Nat.lt_or_ge i f with q | q
  exact absurd (by rw [Prod.ext_iff]; constructor <;> simp_all) (hlow i q)
  omega
 subst hif
 refine ah (aa rfl (ac rfl) (aa rfl (aH rfl) ?_))
 refine aa rfl (ao rfl fI rfl jC rfl (by first | exact Nat.zero_add _ | rfl)) ?_
 refine aa rfl (ap mG rfl (aA rfl)) ?_
 refine aa rfl (ac rfl) ?_
 refine aa rfl (bY lx cB rfl rfl rfl hi1 (by first | exact Nat.zero_add _ | rfl)) ?_
 refine bE (ce cB rfl rfl rfl (Ae hi1) (uq (v := (w : Int)) hi1)) ?_
 rintro _ _ rfl
 refine ag (ab (ae (ah (aa rfl (ac rfl) (aa rfl (ai rfl) (aa rfl (ai rfl) (ag (ab (av (bj (aD (aD (bj (aD (au (.inl rfl) (.cons (ak rfl) (.cons (ak rfl) .nil)) ?_)))))))))))))))
 exact ⟨_, ⟨rfl, rfl⟩, iP (by simp) (by simp) hws.symm rfl h1 h2 h3 k1 k2 (by rw [List.length_append, mh, List.length_set, ← mh, ← List.length_append]; exact k3)⟩
 intro c6
 refine aB (bF (ab ?_))
 have hne : i ≠ f := by
  intro q; subst q
  have q1 := congrArg Prod.fst hf.2
  have q2 := congrArg Prod.snd hf.2
  simp_all
 refine ah (aa rfl (ac rfl) ?_)
 refine aa rfl (bC rfl rfl (aW (by omega))) ?_
 refine aa rfl (ai rfl) (ag (ab ?_))
 refine cp (i + 1) ?_ ?_ ?_ ?_
 show i + 1 ≤ f; omega
 omega
 · repeat (first | exact aX | refine aU rfl ?_)
 exact iP rfl rfl rfl rfl h1 h2 h3 k1 k2 k3
 intro g6_10
 refine al rfl rfl rfl rfl (al rfl rfl rfl rfl (al rfl rfl rfl rfl (al rfl rfl rfl rfl (al rfl rfl rfl rfl (al rfl rfl rfl rfl (al rfl rfl rfl rfl (aa rfl (aJ rfl rfl) (ag (ab (eL rfl (aB (bF (ab ?_)))))))))))))
 have hne : i ≠ f := by
  intro q; subst q
  have q1 := congrArg Prod.fst hf.2
  have q2 := congrArg Prod.snd hf.2
  simp_all
 refine ah (aa rfl (ac rfl) ?_)
 refine aa rfl (bC rfl rfl (aW (by omega))) ?_
 refine aa rfl (ai rfl) (ag (ab ?_))
 refine cp (i + 1) ?_ ?_ ?_ ?_
 show i + 1 ≤ f; omega
 omega
 · repeat (first | exact aX | refine aU rfl ?_)
 exact iP rfl rfl rfl rfl h1 h2 h3 k1 k2 k3
 intro c4
 refine bX (bi (bi (bZ (ab (ae (ah (aa rfl (ai rfl) (aa rfl (ai rfl) (ag (ab (av (au (.inl rfl) (.cons (ak rfl) (.cons (ak rfl) .nil)) ?_))))))))))))
 exfalso; omega
 intro g4_8
 refine al rfl rfl rfl rfl (al rfl rfl rfl rfl (al rfl rfl rfl rfl (al rfl rfl rfl rfl (al rfl rfl rfl rfl (al rfl rfl rfl rfl (aa rfl (aJ rfl rfl) (ag (ab (eL rfl (bX (bi (bi (bZ (ab (ae (ah (aa rfl (ai rfl) (aa rfl (ai rfl) (ag (ab (av (au (.inl rfl) (.cons (ak rfl) (.cons (ak rfl) .nil)) ?_))))))))))))))))))))))
 exfalso; omega
theorem Ak (W0 : World) (R : List HP) (a : Option Addr) (c p : Nat) (ws : List Nat) (h1 : 1 ≤ p) (hp : p ≤ 8) (hn : ws.length < 9223372036854775808) (hc : ws.length ≤ c) :
    aC Tryz.prog W0 308 [.slice a ws.length c, .int .i64 p] R (fun v B => v = .slice a (bH ws p).length c ∧ B = R) := by
 have hl := mf ws p
 refine aF func308 ntmps308 rfl rfl ?_
 refine ae (ah (aa rfl (ai rfl) (ag (ab (ae (ae (ah (aa rfl (ac rfl) (aa rfl (aY rfl rfl) (ag (ab ?_)))))))))))
 refine ax rfl ?_ ?_
 intro c1
 omega
 intro c1
 refine aB (ab (ae (ah (aa rfl (ac rfl) (aa rfl (lW rfl rfl (uj hp)) ?_)))))
 refine aa rfl (iq rfl rfl (by rw [aW (by omega)]; omega : IntKind.wrap .i64 (16 * (p : Int)) = ((16 * p : Nat) : Int))) ?_
 refine aa rfl (ai rfl) (ag (ab (ae (ah (aa rfl (ac rfl) (aa rfl (ac rfl) (aa rfl (ac rfl) (aa rfl (bq ik rfl) (aa rfl (lW rfl rfl (qI (16 * p) ws.length)) ?_)))))))))
 refine aa rfl (jN ik dz rfl rfl (h := min (16 * p) ws.length) rfl (by omega)) ?_
 refine aa rfl (ai rfl) (ag (ab (av (au (.inl rfl) (.cons (ak rfl) .nil) ?_))))
 rw [hl]
 exact ⟨_, ⟨rfl, rfl⟩, inferInstance⟩
theorem Al {ws : List Nat} {i k : Nat} (hk : k < 16) : (cH ws i)[k]? = ws[16 * i + k]? := by
 rw [cH, List.getElem?_take_of_lt hk, List.getElem?_drop]
theorem Am {f : Nat} {ws : List Nat} {i k : Nat} (hk : k < 16) (fr : List bW) : eF f ((cH ws i).take (k + 1)) 0 fr = match ws[16 * i + k]? with | some y => eY (eF f ((cH ws i).take k) 0 fr) f (4 * k : Nat) 4 y | none => eF f ((cH ws i).take k) 0 fr := by
 have hg := Al (ws := ws) (i := i) hk
 cases e : ws[16 * i + k]? with
 | none =>
  rw [e] at hg
  have := List.getElem?_eq_none_iff.1 hg
  rw [List.take_of_length_le (by omega), List.take_of_length_le this]
 | some y =>
  rw [e] at hg
  obtain ⟨hlt, hy⟩ := List.getElem?_eq_some_iff.1 hg
  rw [List.take_succ_eq_append_getElem hlt, hy, pE, List.length_take, Nat.min_eq_left (by omega), Nat.zero_add]
theorem An (W0 : World) (R : List HP) (pb qs pm who n : Nat) (x : Im) (h : ImOk x) (h0 : 0 < x.fr.length) (a : Option Addr) (c : Nat) (ws : List Nat) (hw : who < 16) (h1 : 1 ≤ n) (h8 : n ≤ 8) (hf : jU x.pg 0 8) (hl : n ≤ (bJ x.po who).length)
    (hs : ∀ A, Ent A R → cq (bI W0 A) a 1 i7 ws) (hb : ∀ y ∈ ws, y < 4294967296) (hn : ws.length < 9223372036854775808) (hc : ws.length ≤ c) :
    aC Tryz.prog W0 214 [.pointer (some ⟨pb, 0, none⟩), .pointer (some ⟨qs, 0, none⟩), .pointer (some ⟨pm, 0, none⟩), .int .i64 who, .int .i64 n, .slice a ws.length c] (cT pb (qs, x.po) :: cD qs x.fr :: pt pm (fF x.pg) :: R)
      (fun v B => v = .int .i64 0 ∧ B = cT pb (qs, (cZ who (bH ws n) n x).po) :: cD qs (cZ who (bH ws n) n x).fr :: pt pm (fF (cZ who (bH ws n) n x).pg) :: R) := by
 have hlen := mf ws n
 have hle := h.len
 have hcb : ∀ y ∈ bH ws n, y < 4294967296 := fun y hy => hb y (List.mem_of_mem_take hy)
 have hok : ∀ i, ImOk (cZ who (bH ws n) i x) := fun i => jT hw h
 have hcs : ∀ A, Ent A R → cq (bI W0 A) a 1 i7 (bH ws n) := fun A hA => (hs A hA).take _
 have hp32 : ∀ i, (cZ who (bH ws n) i x).po.length ≤ 32 := fun i => (hok i).po.len
 refine aF func214 ntmps214 rfl rfl ?_
 refine ae (ah (aa rfl (ai rfl) (ag (ab (ae (ae (ah (aa rfl (ac rfl) (aa rfl (aY rfl rfl) (aa rfl (ac rfl) ?_))))))))))
 refine bA rfl rfl rfl ?_ ?_
 intro g1_3
 omega
 intro g1_3
 refine aa rfl (ac rfl) (ar rfl rfl (aa rfl (cd rfl rfl) (aa rfl (aJ rfl rfl) (aa rfl (ac rfl) ?_))))
 refine bA rfl rfl rfl ?_ ?_
 intro g1_7
 omega
 intro g1_7
 refine aa rfl (ac rfl) (ar rfl rfl (aa rfl (aY rfl rfl) (aa rfl (aJ rfl rfl) (aa rfl (ac rfl) ?_))))
 refine bA rfl rfl rfl ?_ ?_
 intro g1_11
 omega
 intro g1_11
 refine aa rfl (ac rfl) (ar rfl rfl (aa rfl (cF rfl rfl) (aa rfl (aJ rfl rfl) (ag (ab ?_)))))
 refine ax rfl ?_ ?_
 intro c1
 omega
 intro c1
 refine aB (ab (ae (ae (ah (aa rfl (ai rfl) (ag (ab (b0 ?_))))))))
 refine cC (fun i : Nat => i ≤ n) (fun i => [(0, .pointer (some ⟨pb, 0, none⟩)), (1, .pointer (some ⟨qs, 0, none⟩)), (2, .pointer (some ⟨pm, 0, none⟩)), (3, .int .i64 who), (4, .int .i64 n), (5, .slice a ws.length c), (13, .int .i64 i)]) (fun i => cT pb (qs, x.po) :: cD qs x.fr :: pt pm (fF x.pg) :: R) (fun i => n - i) 0 ?_ ?_ ?_ ?_
 exact Nat.zero_le _
 · repeat (first | exact aX | refine aU rfl ?_)
 exact inferInstance
 intro i hi
 refine ae (ae (ah (aa rfl (ac rfl) (aa rfl (ac rfl) (aa rfl (aY rfl rfl) (ag (ab ?_)))))))
 refine ax rfl ?_ ?_
 intro c4
 refine aB (ab (ae (b0 (ae (ah (aa rfl (ac rfl) (aa rfl (ac rfl) (am rfl (bz call306 rfl (zP pm x.pg h.pg i)) ?_))))))))
 rintro _ B_ ⟨rfl, hB_⟩
 obtain rfl := hB_.symm
 refine aa rfl (ac rfl) (aa rfl (aZ rfl rfl) (aa rfl (aZ rfl rfl) (am rfl (dd iF) ?_)))
 rintro _ _ ⟨bx, rfl, rfl⟩
 refine bE (cK eS rfl rfl rfl rfl rfl) ?_
 rintro _ _ rfl
 refine aa rfl (ai rfl) (ag (ab (ae (ah (aa rfl (ac rfl) (ag (ab ?_)))))))
 refine ax rfl ?_ ?_
 intro c7
 exact absurd c7 (by rw [hf i (Nat.zero_le _) (by omega)]; decide)
 intro c7
 refine aB (bF (ab (ah (aa rfl (ac rfl) ?_))))
 refine aa rfl (bC rfl rfl (by first | exact aW (by omega) | rfl)) ?_
 refine aa rfl (ai rfl) (ag (ab ?_))
 refine cp (i + 1) ?_ ?_ ?_ ?_
 omega
 omega
 · repeat (first | exact aX | refine aU rfl ?_)
 exact inferInstance
 intro c4
 refine bX (bi (bi (bZ (ab (ae (ae (ah (aa rfl (ac rfl) (aa rfl (ac rfl) ?_)))))))))
 refine am rfl (bz call307 rfl (Ai W0 _ pb qs x.po who (by omega) (hp32 0))) ?_
 rintro _ B_ ⟨rfl, hB_⟩
 obtain rfl := hB_.symm
 refine aa rfl (ac rfl) (aa rfl (aY rfl rfl) (ag (ab ?_)))
 refine ax rfl ?_ ?_
 intro c9
 omega
 intro c9
 refine aB (ab (ae (ah (aa rfl (ac rfl) (aa rfl (ac rfl) (am rfl (aS call308 rfl (Ak W0 _ a c n ws h1 h8 hn hc)) ?_))))))
 rintro _ B_ ⟨rfl, hB_⟩
 obtain rfl := hB_.symm
 refine aa rfl (ai rfl) (ag (ab (ae (ae (ah (aa rfl (ai rfl) (ag (ab (b0 ?_)))))))))
 refine cC (fun i : Nat => i ≤ n) (fun i => [(0, .pointer (some ⟨pb, 0, none⟩)), (1, .pointer (some ⟨qs, 0, none⟩)), (2, .pointer (some ⟨pm, 0, none⟩)), (3, .int .i64 who), (4, .int .i64 n), (16, .slice a (bH ws n).length c), (17, .int .i64 i)]) (fun i => cT pb (qs, (cZ who (bH ws n) i x).po) :: cD qs (cZ who (bH ws n) i x).fr :: pt pm (fF (cZ who (bH ws n) i x).pg) :: R) (fun i => n - i) 0 ?_ ?_ ?_ ?_
 exact Nat.zero_le _
 · repeat (first | exact aX | refine aU rfl ?_)
 exact ent_refl
 intro i hi
 refine ae (ae (ah (aa rfl (ac rfl) (aa rfl (ac rfl) (aa rfl (aY rfl rfl) (ag (ab ?_)))))))
 refine ax rfl ?_ ?_
 intro c13
 refine aB (ab (ae (b0 (ae ?_))))
 have hin : i < n := by omega
 have hfr := pF (who := who) (words := bH ws n) (x := x) i
 have hpg := (pG (who := who) (words := bH ws n) hf h.pg.len i (by omega)).1
 obtain ⟨f, l, he⟩ : ∃ f l, bJ (cZ who (bH ws n) i x).po who = f :: l := by
  cases e : bJ (cZ who (bH ws n) i x).po who with
  | nil => rw [e] at hfr; simp at hfr; omega
  | cons f l => exact ⟨f, l, rfl⟩
 obtain ⟨y, hy⟩ : ∃ y, cZ who (bH ws n) i x = y := ⟨_, rfl⟩
 have hoki := hok i
 have hnx : cZ who (bH ws n) (i + 1) x = fm who (bH ws n) y i := by rw [cZ, hy]
 have hp32i := hp32 i
 have hti := hpg i (Nat.le_refl _) (by omega)
 rw [hy] at he hoki hp32i hti ⊢
 rw [fm, he] at hnx
 dsimp only at hnx
 have hff := gD.1 (show f ∈ bJ y.po who by rw [he]; simp)
 refine ah (aa rfl (ac rfl) (aa rfl (ac rfl) (am rfl (bz call309 rfl (Aj W0 _ pb qs y.po who f l hw hp32i he)) ?_)))
 rintro _ B_ ⟨rfl, hB_⟩
 obtain rfl := hB_.symm
 refine aa rfl (ac rfl) (aa rfl (aZ rfl rfl) (aa rfl (aZ rfl rfl) (aa rfl (ai rfl) (aa rfl (ai rfl) (ag (ab (ae (ah (aa rfl (ac rfl) (aa rfl (ac rfl) (aa rfl (ac rfl) (aa rfl (bQ fY iF (aE az (aE az bP)) (bn rfl az rfl rfl (Nat.le_of_ble_eq_true rfl) SetL.eq (bn rfl az rfl rfl (Nat.le_of_ble_eq_true rfl) SetL.eq bO))) ?_))))))))))))
 refine am rfl (bz vV rfl (qE pm y.pg hoki.pg i ((f : Int), 3))) ?_
 rintro _ B_ ⟨rfl, hB_⟩
 obtain rfl := hB_.symm
 refine ag (ab (ae (ah (aa rfl (ai rfl) (ag (ab (b0 ?_)))))))
 refine cC (fun k : Nat => k ≤ 16) (fun k => [(0, .pointer (some ⟨pb, 0, none⟩)), (1, .pointer (some ⟨qs, 0, none⟩)), (2, .pointer (some ⟨pm, 0, none⟩)), (3, .int .i64 who), (4, .int .i64 n), (16, .slice a (bH ws n).length c), (17, .int .i64 i), (18, .int .i64 f), (20, .int .i64 k)]) (fun k => cT pb (qs, y.po.set f ((who : Int), true)) :: cD qs (eF f ((cH (bH ws n) i).take k) 0 y.fr) :: pt pm (fF (e9 y.pg i ((f : Int), 3))) :: R) (fun k => 16 - k) 0 ?_ ?_ ?_ ?_
 exact Nat.zero_le _
 · repeat (first | exact aX | refine aU rfl ?_)
 rw [show eF f ((cH (bH ws n) i).take 0) 0 y.fr = y.fr from rfl]
 exact inferInstance
 intro k hk
 refine ae (ae (ah (aa rfl (ac rfl) (aa rfl (aY rfl rfl) (ag (ab ?_))))))
 refine ax rfl ?_ ?_
 intro c18
 refine aB (ab ?_)
 refine gM (fun _ : Unit => k < 16) (fun _ => [(0, .pointer (some ⟨pb, 0, none⟩)), (1, .pointer (some ⟨qs, 0, none⟩)), (2, .pointer (some ⟨pm, 0, none⟩)), (3, .int .i64 who), (4, .int .i64 n), (16, .slice a (bH ws n).length c), (17, .int .i64 i), (18, .int .i64 f), (20, .int .i64 k)]) (fun _ => cT pb (qs, y.po.set f ((who : Int), true)) :: cD qs (eF f ((cH (bH ws n) i).take (k + 1)) 0 y.fr) :: pt pm (fF (e9 y.pg i ((f : Int), 3))) :: R) ?_ ?_
 skip
 refine b0 (ae ?_)
 have hk1 : k < 16 := by omega
 have hwt := Am (f := f) (ws := bH ws n) (i := i) hk1 y.fr
 refine ah (aa rfl (ac rfl) ?_)
 refine aa rfl (iq rfl rfl (by rw [aW (by omega)]; omega : IntKind.wrap .i64 (16 * (i : Int)) = ((16 * i : Nat) : Int))) ?_
 refine aa rfl (ac rfl) ?_
 refine aa rfl (bC rfl rfl (by rw [aW (by omega)]; omega : IntKind.wrap .i64 (((16 * i : Nat) : Int) + (k : Int)) = ((16 * i + k : Nat) : Int))) ?_
 refine aa rfl (ac rfl) (aa rfl (bq ik rfl) (aa rfl (aY rfl rfl) (ag (ab ?_))))
 refine ax rfl ?_ ?_
 intro c20
 have hlt : 16 * i + k < (bH ws n).length := by omega
 obtain ⟨gb, go, hga, hc'⟩ := (hcs (cT pb (qs, y.po.set f ((who : Int), true)) :: cD qs (eF f ((cH (bH ws n) i).take k) 0 y.fr) :: pt pm (fF (e9 y.pg i ((f : Int), 3))) :: R) inferInstance).at_ hlt
 obtain ⟨z, hz⟩ : ∃ z, (bH ws n)[16 * i + k] = z := ⟨_, rfl⟩
 rw [hz] at hc'
 have hzb := hcb _ (List.getElem_mem hlt)
 rw [hz] at hzb
 obtain ⟨hF, hFl⟩ := kP (f := f) (l := (cH (bH ws n) i).take k) (k := 0) hoki.fr
 rw [List.getElem?_eq_getElem hlt, hz] at hwt
 dsimp only at hwt
 refine ah (aa rfl (ac rfl) (aa rfl (ac rfl) (aa rfl (ac rfl) ?_)))
 refine aa rfl (iq rfl rfl (by rw [aW (by omega)]; omega : IntKind.wrap .i64 (4 * (k : Int)) = ((4 * k : Nat) : Int))) ?_
 refine aa rfl (ac rfl) (aa rfl (ac rfl) ?_)
 refine aa rfl (iq rfl rfl (by rw [aW (by omega)]; omega : IntKind.wrap .i64 (16 * (i : Int)) = ((16 * i : Nat) : Int))) ?_
 refine aa rfl (ac rfl) ?_
 refine aa rfl (bC rfl rfl (by rw [aW (by omega)]; omega : IntKind.wrap .i64 (((16 * i : Nat) : Int) + (k : Int)) = ((16 * i + k : Nat) : Int))) ?_
 refine aa rfl (ec ik dz rfl hga rfl rfl hlt (by first | exact Nat.zero_add _ | rfl)) ?_
 refine aa rfl (ap je rfl (hc' 0 _ rfl)) ?_
 refine am rfl (bz call310 rfl (zL W0 _ qs (eF f ((cH (bH ws n) i).take k) 0 y.fr) f (4 * k : Nat) 4 z hzb hF)) ?_
 rintro _ B_ ⟨rfl, hB_⟩
 obtain rfl := hB_.symm
 refine ag (bF (ab ?_))
 refine dK () ?_ ?_ ?_
 exact hk1
 · repeat (first | exact aX | refine aU rfl ?_)
 rw [hwt]
 exact inferInstance
 intro c20
 refine aB (bF (ab ?_))
 refine dK () ?_ ?_ ?_
 exact hk1
 · repeat (first | exact aX | refine aU rfl ?_)
 rw [hwt, List.getElem?_eq_none (by omega)]
 exact inferInstance
 intro _ hk1
 refine ah (aa rfl (ac rfl) ?_)
 refine aa rfl (bC rfl rfl (by first | exact aW (by omega) | rfl)) ?_
 refine aa rfl (ai rfl) (ag (ab ?_))
 refine cp (k + 1) ?_ ?_ ?_ ?_
 omega
 omega
 · repeat (first | exact aX | refine aU rfl ?_)
 exact inferInstance
 intro c18
 refine bX (bi (bi (bZ (bF (ab (ah (aa rfl (ac rfl) ?_)))))))
 refine aa rfl (bC rfl rfl (by first | exact aW (by omega) | rfl)) ?_
 refine aa rfl (ai rfl) (ag (ab ?_))
 refine cp (i + 1) ?_ ?_ ?_ ?_
 omega
 omega
 · repeat (first | exact aX | refine aU rfl ?_)
 obtain rfl : k = 16 := by omega
 rw [hnx, show (cH (bH ws n) i).take 16 = cH (bH ws n) i from List.take_of_length_le (by rw [cH, List.length_take]; omega)]
 exact inferInstance
 intro c13
 refine bX (bi (bi (bZ (ab (ae (ah (aa rfl (ai rfl) (ag (ab (av (au (.inl rfl) (.cons (ak rfl) .nil) ?_)))))))))))
 obtain rfl : i = n := by omega
 exact ⟨_, ⟨rfl, rfl⟩, inferInstance⟩
def iB (b : Nat) (L : List Int) : HP := chk (fun C => ∃ a c, C = [pt b (aw [.slice a L.length c] 450), osl 3 1 (.slice a L.length c) (L.flatMap ei)])
section
variable {W0 : World} {N : FSz} {K : Act → World → Prop} {e : bK} {A B R R1 R2 : List HP} {b n c : Nat} {L : List Int}
theorem Ao [hk : Tk iB b A L R] (h : ∀ a c, aQ W0 N K e (pt b (aw [.slice a L.length c] 450) :: osl 3 1 (.slice a L.length c) (L.flatMap ei) :: R)) : aQ W0 N K e A :=
  dP (r := iB) (b := b) (iM fun C hC => by obtain ⟨a, c, rfl⟩ := hC; exact h a c)
theorem ja {a : Option Addr} {ys : List Value} [h1 : Tk pt b A (aw [.slice a n c] 450) R1] [h2 : Tk (osl 3 1) (.slice a n c) R1 ys R2] (hk : n = L.length) (hy : ys = L.flatMap ei) [q : Ent R2 B] : Ent A (iB b L :: B) := by
 subst hk; subst hy
 exact (Ent.ofPerm (h1.perm.trans (h2.perm.cons _))).trans ((eE (R := R2) (C := [_, _]) ⟨a, c, rfl⟩).trans (Ent.cons q))
end
theorem uv (x : Int) : (ei x).length = 1 := rfl
theorem nQ (L : List Int) : (L.flatMap ei).length = L.length := by rw [dm uv]; omega
theorem Ap (L : List Int) (j : Nat) (w : Int) : (L.flatMap ei).set j (.int .i64 w) = (L.set j w).flatMap ei := by
 induction L generalizing j with
 | nil => rfl
 | cons x L ih =>
  cases j with
  | zero => rfl
  | succ j => simp only [List.flatMap_cons, ei, List.cons_append, List.nil_append, List.set_cons_succ] at ih ⊢; rw [ih]
theorem Aq (L : List Int) : en (L.flatMap ei) = true := by
 induction L with
 | nil => rfl
 | cons x l ih => rw [List.flatMap_cons, en, List.all_append, Bool.and_eq_true]; exact ⟨rfl, ih⟩
theorem uw (n : Nat) (h : n ≤ 64) : aC Tryz.prog W0 194 [.int .i64 n] R (fun v B => ∃ b, v = .tuple #[.pointer (some ⟨b, 0, none⟩), .int .i64 0] ∧ B = iB b (List.replicate n (-1)) :: R) := by
 refine aF func194 ntmps194 rfl rfl ?_
 refine ae (ah (aa rfl (ai rfl) (aa rfl (ai rfl) (ag (ab (ae (ae (ah (aa rfl (ac rfl) (aa rfl (aY rfl rfl) (aa rfl (ac rfl) ?_)))))))))))
 refine bA rfl rfl rfl ?_ ?_
 intro g1_3
 omega
 intro g1_3
 refine aa rfl (ac rfl) (ar rfl rfl (aa rfl (cd rfl rfl) (aa rfl (aJ rfl rfl) (ag (ab ?_)))))
 refine ax rfl ?_ ?_
 intro c1
 omega
 intro c1
 refine aB (ab (ae (ah (aa rfl (bQ kv zeroValue450 (aE d9 bP) bO) ?_))))
 refine am rfl (bL rfl) ?_
 rintro _ _ ⟨bt, rfl, rfl⟩
 refine aa rfl (ai rfl) (ag (ab (ae (ae (ah (aa rfl (ai rfl) (ag (ab (b0 ?_)))))))))
 refine cC (fun X : Nat × Option Addr × Nat => X.1 ≤ n) (fun X => [(0, .int .i64 n), (4, .pointer (some ⟨bt, 0, none⟩)), (5, .int .i64 X.1)]) (fun X => pt bt (aw [.slice X.2.1 X.1 X.2.2] 450) :: osl 3 1 (.slice X.2.1 X.1 X.2.2) ((List.replicate X.1 (-1)).flatMap ei) :: R) (fun X => n - X.1) (0, none, 0) ?_ ?_ ?_ ?_
 exact Nat.zero_le _
 · repeat (first | exact aX | refine aU rfl ?_)
 exact Ent.cons fb
 intro ⟨i, a, c⟩ hi
 dsimp only at hi ⊢
 refine ae (ae (ah (aa rfl (ac rfl) (aa rfl (ac rfl) (aa rfl (aY rfl rfl) (ag (ab ?_)))))))
 refine ax rfl ?_ ?_
 intro c5
 refine aB (ab (ae (b0 (ah (aa rfl (ac rfl) (aa rfl (ac rfl) (aa rfl (aH rfl) ?_)))))))
 refine aa rfl (ao rfl kv rfl d9 rfl (by first | exact Nat.zero_add _ | rfl)) ?_
 refine aa rfl (ap eA rfl (aA rfl)) ?_
 refine am rfl (fK dt az ln rfl rfl rfl rfl rfl (by decide) (by decide)) ?_
 rintro _ _ ⟨b2, rfl, rfl⟩
 refine am rfl (dL (sz := 1) (by_ := 8) (info := Tryz.t3) dt (by kernel_rfl) rfl rfl rfl rfl (by decide) rfl rfl dM rfl rfl (by simp only [maxLen]; omega) (by omega)) ?_
 rintro _ _ ⟨a3, c3, rfl, rfl⟩
 have hmp : (List.replicate i (-1)).flatMap ei ++ [Value.int .i64 (-1)] = (List.replicate (i + 1) (-1 : Int)).flatMap ei := by
  rw [List.replicate_succ', List.flatMap_append]; rfl
 rw [hmp]
 refine aa rfl (aH rfl) ?_
 refine aa rfl (ao rfl kv rfl d9 rfl (by first | exact Nat.zero_add _ | rfl)) ?_
 refine bE (ce d9 rfl rfl rfl (Nat.le_of_ble_eq_true rfl) SetL.eq) ?_
 rintro _ _ rfl
 refine ag (bF (ab (ah (aa rfl (ac rfl) ?_))))
 refine aa rfl (bC rfl rfl (by first | exact aW (by omega) | rfl)) ?_
 refine aa rfl (ai rfl) (ag (ab ?_))
 refine cp (i + 1, a3, c3) ?_ ?_ ?_ ?_
 omega
 omega
 · repeat (first | exact aX | refine aU rfl ?_)
 exact inferInstance
 intro c5
 refine bX (bi (bi (bZ (ab (ae (ah (aa rfl (ac rfl) (aa rfl (ai rfl) (aa rfl (ai rfl) (ag (ab (av (au (.inl rfl) (.cons (ak rfl) (.cons (ak rfl) .nil)) ?_)))))))))))))
 obtain rfl : i = n := by omega
 exact ⟨_, ⟨bt, rfl, rfl⟩, ja (by simp) rfl⟩
def i8 (L : List Int) (f k : Nat) (w : Int) : List Int := (List.range L.length).map fun j => if f ≤ j ∧ j < f + k then w else L.getD j (-1)
theorem qL {L : List Int} {f k : Nat} {w : Int} : (i8 L f k w).length = L.length := by simp [i8]
theorem Ar {L : List Int} {f : Nat} {w : Int} : i8 L f 0 w = L := by
 apply List.ext_getElem
 exact qL
 intro i h1 h2
 simp only [i8, List.getElem_map, List.getElem_range]
 rw [if_neg (by omega)]; simp [List.getD, h2]
theorem As {L : List Int} {f k : Nat} {w : Int} (h : f + k < L.length) : (i8 L f k w).set (f + k) w = i8 L f (k + 1) w := by
 apply List.ext_getElem
 simp [i8]
 intro i h1 h2
 rw [List.getElem_set]
 simp only [i8, List.getElem_map, List.getElem_range]
 by_cases e : f + k = i
 rw [if_pos e, if_pos (by omega)]
 rw [if_neg e]
 by_cases q : f ≤ i ∧ i < f + k
 rw [if_pos q, if_pos (by omega)]
 rw [if_neg q, if_neg (by omega)]
theorem Au {L : List Int} {f k : Nat} {w : Int} (h : eI L f k w = 0) : fW L f k w = i8 L f k w := by
 rw [fW, if_pos h, i8]
 apply List.map_congr_left
 intro i _
 by_cases q : f ≤ i ∧ i < f + k
 rw [if_pos q, if_pos (by omega)]
 rw [if_neg q, if_neg (by omega)]
theorem Av {L : List Int} {f k i : Nat} {w : Int} (hb : ¬ ((f : Int) < 0 ∨ (k : Int) < 1 ∨ (L.length : Int) < f ∨ (L.length : Int) - f < k ∨ w < 0 ∨ 64 ≤ w)) (hi : i < k) (h : 0 ≤ L.getD (f + i) (-1)) : eI L f k w = 5 := by
 rw [eI, if_neg hb, if_pos]
 rw [List.any_eq_true]
 exact ⟨i, List.mem_range.2 (by omega), decide_eq_true (by rw [Int.toNat_natCast]; exact h)⟩
theorem Aw {L : List Int} {f k : Nat} {w : Int} (hb : ¬ ((f : Int) < 0 ∨ (k : Int) < 1 ∨ (L.length : Int) < f ∨ (L.length : Int) - f < k ∨ w < 0 ∨ 64 ≤ w)) (h : ∀ j, j < k → ¬ 0 ≤ L.getD (f + j) (-1)) : eI L f k w = 0 := by
 rw [eI, if_neg hb, if_neg]
 intro q
 obtain ⟨i, hi, hd⟩ := List.any_eq_true.1 q
 have hd := of_decide_eq_true hd
 rw [Int.toNat_natCast] at hd
 exact h i (by have := List.mem_range.1 hi; omega) hd
theorem ux (W0 : World) (R : List HP) (b : Nat) (L : List Int) (hl : L.length ≤ 64) (f k w : Int) :
    aC Tryz.prog W0 196 [.pointer (some ⟨b, 0, none⟩), .int .i64 f, .int .i64 k, .int .i64 w] (iB b L :: R) (fun v B => v = .int .i64 (eI L f k w) ∧ B = iB b (fW L f k w) :: R) := by
 refine aF func196 ntmps196 rfl rfl ?_
 refine ae (ah (aa rfl (ai rfl) (ag (ab (ae (ae ?_))))))
 refine Ao (b := b) fun a c => ?_
 refine ah (aa rfl (ac rfl) (aa rfl (aY rfl rfl) (aa rfl (ac rfl) ?_)))
 refine bA rfl rfl rfl ?_ ?_
 intro g1_3
 refine al rfl rfl rfl rfl (aa rfl (aT rfl rfl) (aa rfl (ac rfl) (al rfl rfl rfl rfl (al rfl rfl rfl rfl (al rfl rfl rfl rfl (al rfl rfl rfl rfl (al rfl rfl rfl rfl (al rfl rfl rfl rfl (al rfl rfl rfl rfl (aa rfl (aT rfl rfl) (aa rfl (ac rfl) (al rfl rfl rfl rfl (al rfl rfl rfl rfl (al rfl rfl rfl rfl (al rfl rfl rfl rfl (al rfl rfl rfl rfl (al rfl rfl rfl rfl (al rfl rfl rfl rfl (al rfl rfl rfl rfl (al rfl rfl rfl rfl (aa rfl (aT rfl rfl) (aa rfl (ac rfl) (al rfl rfl rfl rfl ?_)))))))))))))))))))))))
 refine al rfl rfl rfl rfl (aa rfl (aT rfl rfl) (aa rfl (ac rfl) (al rfl rfl rfl rfl (al rfl rfl rfl rfl (aa rfl (aT rfl rfl) (ag (ab (bR rfl (ae (ah (aa rfl (ai rfl) (ag (ab (av (aD (au (.inl rfl) (.cons (ak rfl) .nil) ?_))))))))))))))))
 have he : eI L f k w = 1 := by rw [eI, if_pos (by omega)]
 rw [fW, he, if_neg (by decide)]
 exact ⟨_, ⟨rfl, rfl⟩, ja rfl rfl⟩
 intro g1_3
 refine aa rfl (ac rfl) (ar rfl rfl (aa rfl (aY rfl rfl) (aa rfl (aJ rfl rfl) (aa rfl (ac rfl) ?_))))
 refine bA rfl rfl rfl ?_ ?_
 intro g1_7
 refine al rfl rfl rfl rfl (al rfl rfl rfl rfl (al rfl rfl rfl rfl (al rfl rfl rfl rfl (al rfl rfl rfl rfl (al rfl rfl rfl rfl (aa rfl (aT rfl rfl) (aa rfl (ac rfl) (al rfl rfl rfl rfl (al rfl rfl rfl rfl (al rfl rfl rfl rfl (al rfl rfl rfl rfl (al rfl rfl rfl rfl (al rfl rfl rfl rfl (al rfl rfl rfl rfl (al rfl rfl rfl rfl (al rfl rfl rfl rfl (aa rfl (aT rfl rfl) (aa rfl (ac rfl) (al rfl rfl rfl rfl (al rfl rfl rfl rfl (aa rfl (aT rfl rfl) (aa rfl (ac rfl) (al rfl rfl rfl rfl ?_)))))))))))))))))))))))
 refine al rfl rfl rfl rfl (aa rfl (aT rfl rfl) (ag (ab (bR rfl (ae (ah (aa rfl (ai rfl) (ag (ab (av (aD (au (.inl rfl) (.cons (ak rfl) .nil) ?_))))))))))))
 have he : eI L f k w = 1 := by rw [eI, if_pos (by omega)]
 rw [fW, he, if_neg (by decide)]
 exact ⟨_, ⟨rfl, rfl⟩, ja rfl rfl⟩
 intro g1_7
 refine aa rfl (ac rfl) (ar rfl rfl (aa rfl (ac rfl) (ar rfl rfl (aa rfl (aH rfl) (ar rfl rfl ?_)))))
 refine aa rfl (ao rfl kv rfl d9 rfl (by first | exact Nat.zero_add _ | rfl)) ?_
 refine ar rfl rfl (aa rfl (ap eA rfl (aA rfl)) ?_)
 refine ar rfl rfl (aa rfl (bq dt rfl) (ar rfl rfl (aa rfl (cd rfl rfl) (aa rfl (aJ rfl rfl) (aa rfl (ac rfl) ?_)))))
 refine bA rfl rfl rfl ?_ ?_
 intro g1_16
 refine al rfl rfl rfl rfl (al rfl rfl rfl rfl (al rfl rfl rfl rfl (al rfl rfl rfl rfl (al rfl rfl rfl rfl (al rfl rfl rfl rfl (al rfl rfl rfl rfl (al rfl rfl rfl rfl (aa rfl (aT rfl rfl) (aa rfl (ac rfl) (al rfl rfl rfl rfl (al rfl rfl rfl rfl (aa rfl (aT rfl rfl) (aa rfl (ac rfl) (al rfl rfl rfl rfl (al rfl rfl rfl rfl (aa rfl (aT rfl rfl) (ag (ab (bR rfl (ae (ah (aa rfl (ai rfl) (ag ?_)))))))))))))))))))))))
 refine ab (av (aD (au (.inl rfl) (.cons (ak rfl) .nil) ?_)))
 have he : eI L f k w = 1 := by rw [eI, if_pos (by omega)]
 rw [fW, he, if_neg (by decide)]
 exact ⟨_, ⟨rfl, rfl⟩, ja rfl rfl⟩
 intro g1_16
 refine aa rfl (ac rfl) (ar rfl rfl (aa rfl (ac rfl) (ar rfl rfl (aa rfl (aH rfl) (ar rfl rfl ?_)))))
 refine aa rfl (ao rfl kv rfl d9 rfl (by first | exact Nat.zero_add _ | rfl)) ?_
 refine ar rfl rfl (aa rfl (ap eA rfl (aA rfl)) ?_)
 refine ar rfl rfl (aa rfl (bq dt rfl) (ar rfl rfl (aa rfl (ac rfl) (ar rfl rfl ?_))))
 refine aa rfl (dW rfl rfl (aW (by omega))) ?_
 refine ar rfl rfl (aa rfl (cd rfl rfl) (aa rfl (aJ rfl rfl) (aa rfl (ac rfl) ?_)))
 refine bA rfl rfl rfl ?_ ?_
 intro g1_27
 refine al rfl rfl rfl rfl (aa rfl (aT rfl rfl) (aa rfl (ac rfl) (al rfl rfl rfl rfl (al rfl rfl rfl rfl (aa rfl (aT rfl rfl) (ag (ab (bR rfl (ae (ah (aa rfl (ai rfl) (ag (ab (av (aD (au (.inl rfl) (.cons (ak rfl) .nil) ?_))))))))))))))))
 have he : eI L f k w = 1 := by rw [eI, if_pos (by omega)]
 rw [fW, he, if_neg (by decide)]
 exact ⟨_, ⟨rfl, rfl⟩, ja rfl rfl⟩
 intro g1_27
 refine aa rfl (ac rfl) (ar rfl rfl (aa rfl (aY rfl rfl) (aa rfl (aJ rfl rfl) (aa rfl (ac rfl) ?_))))
 refine bA rfl rfl rfl ?_ ?_
 intro g1_31
 refine al rfl rfl rfl rfl (aa rfl (aT rfl rfl) (ag (ab (bR rfl (ae (ah (aa rfl (ai rfl) (ag (ab (av (aD (au (.inl rfl) (.cons (ak rfl) .nil) ?_))))))))))))
 have he : eI L f k w = 1 := by rw [eI, if_pos (by omega)]
 rw [fW, he, if_neg (by decide)]
 exact ⟨_, ⟨rfl, rfl⟩, ja rfl rfl⟩
 intro g1_31
 refine aa rfl (ac rfl) (ar rfl rfl (aa rfl (cF rfl rfl) (aa rfl (aJ rfl rfl) (ag (ab ?_)))))
 refine ax rfl ?_ ?_
 intro c1
 refine ae (ah (aa rfl (ai rfl) (ag (ab (av (aD (au (.inl rfl) (.cons (ak rfl) .nil) ?_)))))))
 have he : eI L f k w = 1 := by rw [eI, if_pos (by omega)]
 rw [fW, he, if_neg (by decide)]
 exact ⟨_, ⟨rfl, rfl⟩, ja rfl rfl⟩
 intro c1
 refine aB (ab (ae (ae ?_)))
 have hb : ¬ (f < 0 ∨ k < 1 ∨ (L.length : Int) < f ∨ (L.length : Int) - f < k ∨ w < 0 ∨ 64 ≤ w) := by omega
 obtain ⟨f, rfl⟩ : ∃ f' : Nat, f = (f' : Int) := ⟨f.toNat, by omega⟩
 obtain ⟨k, rfl⟩ : ∃ k' : Nat, k = (k' : Int) := ⟨k.toNat, by omega⟩
 have hfk : f + k ≤ L.length := by omega
 refine pK (E := 3) (sz := 1) (a := a) (c := c) (n := L.length) (ys := L.flatMap ei) (fun hf => ?_)
 obtain ⟨g, rfl⟩ := pU hf (by rw [← List.length_pos_iff, nQ]; omega)
 refine ah (aa rfl (ai rfl) (ag (ab (b0 ?_))))
 refine cC (fun i : Nat => i ≤ k ∧ ∀ j, j < i → ¬ 0 ≤ L.getD (f + j) (-1)) (fun i => [(0, .pointer (some ⟨b, 0, none⟩)), (1, .int .i64 f), (2, .int .i64 k), (3, .int .i64 w), (9, .int .i64 i)]) (fun i => pt b (aw [.slice (some ⟨g, 0, none⟩) L.length c] 450) :: osl 3 1 (.slice (some ⟨g, 0, none⟩) L.length c) (L.flatMap ei) :: R) (fun i => k - i) 0 ?_ ?_ ?_ ?_
 exact ⟨Nat.zero_le _, fun j hj => absurd hj (Nat.not_lt_zero j)⟩
 · repeat (first | exact aX | refine aU rfl ?_)
 exact inferInstance
 intro i ⟨hi, hI⟩
 refine ae (ae (ah (aa rfl (ac rfl) (aa rfl (ac rfl) (aa rfl (aY rfl rfl) (ag (ab ?_)))))))
 refine ax rfl ?_ ?_
 intro c4
 refine aB (ab (ae (b0 (ae ?_))))
 have hi1 : f + i < L.length := by omega
 have hgi : L[f + i]? = some (L.getD (f + i) (-1)) := by simp [List.getD, hi1]
 refine ah (aa rfl (ac rfl) (aa rfl (aH rfl) ?_))
 refine aa rfl (ao rfl kv rfl d9 rfl (by first | exact Nat.zero_add _ | rfl)) ?_
 refine aa rfl (ap eA rfl (aA rfl)) ?_
 refine aa rfl (ac rfl) (aa rfl (ac rfl) ?_)
 refine aa rfl (bC rfl rfl (by rw [aW (by omega)]; omega : IntKind.wrap .i64 ((f : Int) + (i : Int)) = ((f + i : Nat) : Int))) ?_
 refine aa rfl (bY dt az rfl rfl rfl hi1 (by first | exact Nat.zero_add _ | rfl)) ?_
 refine aa rfl (ap aM rfl (tJ (f := ei) (E := 3) (sz := 1) (n := L.length) (c := c) rfl uv (by decide) hgi 0 _ rfl)) ?_
 refine aa rfl (cF rfl rfl) (ag (ab ?_))
 refine ax rfl ?_ ?_
 intro c6
 refine ae (ah (aa rfl (ai rfl) (ag (ab (av (bj (aD (aD (bj (aD (au (.inl rfl) (.cons (ak rfl) .nil) ?_)))))))))))
 have he : eI L f k w = 5 := Av hb (by omega) c6
 rw [fW, he, if_neg (by decide)]
 exact ⟨_, ⟨rfl, rfl⟩, ja rfl rfl⟩
 intro c6
 refine aB (bF (ab (ah (aa rfl (ac rfl) ?_))))
 refine aa rfl (bC rfl rfl (by first | exact aW (by omega) | rfl)) ?_
 refine aa rfl (ai rfl) (ag (ab ?_))
 refine cp (i + 1) ?_ ?_ ?_ ?_
 refine ⟨by omega, fun j hj => ?_⟩
 rcases Nat.lt_or_ge j i with q | q
 exact hI j q
 rw [show j = i by omega]; exact c6
 omega
 · repeat (first | exact aX | refine aU rfl ?_)
 exact inferInstance
 intro c4
 refine bX (bi (bi (bZ (ab (ae ?_)))))
 obtain rfl : i = k := by omega
 have he : eI L f i w = 0 := Aw hb hI
 refine ah (am rfl (lU dt az rfl) ?_)
 rintro _ _ ⟨be, rfl, rfl⟩
 refine aa rfl (ac rfl) (aa rfl (aH rfl) ?_)
 refine aa rfl (ao rfl kv rfl d9 rfl (by first | exact Nat.zero_add _ | rfl)) ?_
 refine aa rfl (ap eA rfl (aA rfl)) ?_
 refine am rfl (dL (sz := 1) (by_ := 8) (info := Tryz.t3) dt (by kernel_rfl) rfl rfl rfl rfl (by decide) rfl rfl (t8 (E := 3) (sz := 1) (a := some ⟨g, 0, none⟩) (c := c) (n := L.length)) (by rw [nQ, Nat.mul_one]) (Aq L) (by simp only [maxLen]; omega) (by omega)) ?_
 rintro _ _ ⟨a3, c3, rfl, rfl⟩
 rw [List.nil_append, Nat.zero_add]
 refine pK (E := 3) (sz := 1) (a := a3) (c := c3) (n := L.length) (ys := L.flatMap ei) (fun hf3 => ?_)
 obtain ⟨g3, rfl⟩ := pU hf3 (by rw [← List.length_pos_iff, nQ]; omega)
 refine aa rfl (ai rfl) (ag (ab (ae (ae (ah (aa rfl (ai rfl) (ag (ab (b0 ?_)))))))))
 refine cC (fun j : Nat => j ≤ i) (fun j => [(0, .pointer (some ⟨b, 0, none⟩)), (1, .int .i64 f), (2, .int .i64 i), (3, .int .i64 w), (10, .slice (some ⟨g3, 0, none⟩) L.length c3), (11, .int .i64 j)]) (fun j => pt b (aw [.slice (some ⟨g, 0, none⟩) L.length c] 450) :: osl 3 1 (.slice (some ⟨g3, 0, none⟩) L.length c3) ((i8 L f j w).flatMap ei) :: R) (fun j => i - j) 0 ?_ ?_ ?_ ?_
 exact Nat.zero_le _
 · repeat (first | exact aX | refine aU rfl ?_)
 rw [Ar]; exact inferInstance
 intro j hj
 refine ae (ae (ah (aa rfl (ac rfl) (aa rfl (ac rfl) (aa rfl (aY rfl rfl) (ag (ab ?_)))))))
 refine ax rfl ?_ ?_
 intro c10
 refine aB (ab (ae (b0 (ah (aa rfl (ac rfl) (aa rfl (ac rfl) (aa rfl (ac rfl) ?_)))))))
 refine aa rfl (bC rfl rfl (by rw [aW (by omega)]; omega : IntKind.wrap .i64 ((f : Int) + (j : Int)) = ((f + j : Nat) : Int))) ?_
 refine aa rfl (ac rfl) ?_
 refine aa rfl (bY dt az rfl rfl rfl (by omega) (by first | exact Nat.zero_add _ | rfl)) ?_
 refine bE (zb (E := 3) (sz := 1) (n := L.length) (c := c3) (l' := (i8 L f (j + 1) w).flatMap ei) az rfl rfl rfl (by rw [nQ, qL]; omega) (by rw [Nat.mul_one, Ap, As (by omega)])) ?_
 rintro _ _ rfl
 refine ag (bF (ab (ah (aa rfl (ac rfl) ?_))))
 refine aa rfl (bC rfl rfl (by first | exact aW (by omega) | rfl)) ?_
 refine aa rfl (ai rfl) (ag (ab ?_))
 refine cp (j + 1) ?_ ?_ ?_ ?_
 omega
 omega
 · repeat (first | exact aX | refine aU rfl ?_)
 exact inferInstance
 intro c10
 refine bX (bi (bi (bZ (ab (ae (ah (aa rfl (ac rfl) (aa rfl (ac rfl) (aa rfl (aH rfl) ?_)))))))))
 refine aa rfl (ao rfl kv rfl d9 rfl (by first | exact Nat.zero_add _ | rfl)) ?_
 refine bE (ce d9 rfl rfl rfl (Nat.le_of_ble_eq_true rfl) SetL.eq) ?_
 rintro _ _ rfl
 refine ag (ab (ae (ah (aa rfl (ai rfl) (ag (ab (av (au (.inl rfl) (.cons (ak rfl) .nil) ?_))))))))
 obtain rfl : j = i := by omega
 rw [he, Au he]
 exact ⟨_, ⟨rfl, rfl⟩, ja qL.symm rfl⟩
theorem Ax {c : Nat} (h : c ≤ 8) : oW .i64 1 (c : Int) = ((2 ^ c : Nat) : Int) := by
 have : c = 0 ∨ c = 1 ∨ c = 2 ∨ c = 3 ∨ c = 4 ∨ c = 5 ∨ c = 6 ∨ c = 7 ∨ c = 8 := by omega
 rcases this with rfl | rfl | rfl | rfl | rfl | rfl | rfl | rfl | rfl <;> rfl
theorem Ay {l cats : Int} : dD l cats = true ↔ 0 ≤ cats ∧ cats ≤ 8 ∧ 0 ≤ l ∧ l < ((2 ^ cats.toNat : Nat) : Int) := by
 simp only [dD, Bool.and_eq_true, decide_eq_true_iff, iw]
 constructor
 rintro ⟨⟨⟨h1, h2⟩, h3, h4⟩, h5⟩
 refine ⟨h1, h2, h3, ?_⟩
 obtain ⟨c, rfl⟩ : ∃ c : Nat, cats = (c : Int) := ⟨cats.toNat, by omega⟩
 obtain ⟨x, rfl⟩ : ∃ x : Nat, l = (x : Int) := ⟨l.toNat, by omega⟩
 rw [mY (k := .i64) (a := x) (s := c) (by show c ≤ 64; omega)] at h5
 have h6 : x / 2 ^ c = 0 := by omega
 have := (Nat.div_eq_zero_iff_lt (Nat.two_pow_pos c)).1 h6
 rw [Int.toNat_natCast]; omega
 rintro ⟨h1, h2, h3, h4⟩
 obtain ⟨c, rfl⟩ : ∃ c : Nat, cats = (c : Int) := ⟨cats.toNat, by omega⟩
 obtain ⟨x, rfl⟩ : ∃ x : Nat, l = (x : Int) := ⟨l.toNat, by omega⟩
 rw [Int.toNat_natCast] at h4
 have h5 : x < 2 ^ c := by omega
 have h6 : 2 ^ c ≤ 2 ^ 8 := Nat.pow_le_pow_right (by decide) (by omega)
 refine ⟨⟨⟨h1, h2⟩, h3, by omega⟩, ?_⟩
 rw [mY (k := .i64) (a := x) (s := c) (by show c ≤ 64; omega), Nat.div_eq_of_lt h5]; rfl
theorem qM (l cats : Int) : aC Tryz.prog W0 294 [.int .i64 l, .int .i64 cats] R (fun v B => v = .bool (dD l cats) ∧ B = R) := by
 have hv := Ay (l := l) (cats := cats)
 refine aF func294 ntmps294 rfl rfl ?_
 refine ae (ah (aa rfl (ai rfl) (ag (ab (ae (ah (aa rfl (ac rfl) (aa rfl (cF rfl rfl) (aa rfl (ac rfl) ?_)))))))))
 refine cG rfl rfl rfl ?_ ?_
 intro g1_3
 refine aa rfl (ac rfl) (ar rfl rfl (aa rfl (jH rfl rfl) (aa rfl (aT rfl rfl) (aa rfl (ac rfl) ?_))))
 refine cG rfl rfl rfl ?_ ?_
 intro g1_7
 refine aa rfl (ac rfl) (ar rfl rfl (aa rfl (cF rfl rfl) (aa rfl (aT rfl rfl) (aa rfl (ac rfl) ?_))))
 refine cG rfl rfl rfl ?_ ?_
 intro g1_11
 obtain ⟨k, rfl⟩ : ∃ k : Nat, cats = (k : Int) := ⟨cats.toNat, by omega⟩
 have hp := Nat.two_pow_pos k
 rw [Int.toNat_natCast] at hv
 refine aa rfl (ac rfl) (ar rfl rfl (aa rfl (ac rfl) (ar rfl rfl ?_)))
 refine aa rfl (wI rfl rfl (by omega) (Ax (by omega))) ?_
 refine ar rfl rfl (aa rfl (aY rfl rfl) (aa rfl (aT rfl rfl) (aa rfl (ai rfl) (ag (ab (av (au (.inl rfl) (.cons (ak rfl) .nil) ?_)))))))
 refine ⟨_, ⟨?_, rfl⟩, inferInstance⟩
 refine congrArg Value.bool ?_
 rw [Bool.eq_iff_iff, hv]
 first
   | (rw [decide_eq_true_iff]; constructor
      · intro q; omega
      · intro q; omega)
   | (constructor
      · intro q; first | omega | (cases q)
      intro q; omega)
 intro g1_11
 refine al rfl rfl rfl rfl (al rfl rfl rfl rfl (al rfl rfl rfl rfl (aa rfl (aJ rfl rfl) (aa rfl (ai rfl) (ag (ab (av (au (.inl rfl) (.cons (ak rfl) .nil) ?_))))))))
 refine ⟨_, ⟨?_, rfl⟩, inferInstance⟩
 refine congrArg Value.bool ?_
 rw [Bool.eq_iff_iff, hv]
 first
   | (rw [decide_eq_true_iff]; constructor
      · intro q; omega
      · intro q; omega)
   | (constructor
      · intro q; first | omega | (cases q)
      intro q; omega)
 intro g1_7
 refine al rfl rfl rfl rfl (aa rfl (aJ rfl rfl) (aa rfl (ac rfl) (al rfl rfl rfl rfl (al rfl rfl rfl rfl (al rfl rfl rfl rfl (al rfl rfl rfl rfl (aa rfl (aJ rfl rfl) (aa rfl (ai rfl) (ag (ab (av (au (.inl rfl) (.cons (ak rfl) .nil) ?_))))))))))))
 refine ⟨_, ⟨?_, rfl⟩, inferInstance⟩
 refine congrArg Value.bool ?_
 rw [Bool.eq_iff_iff, hv]
 first
   | (rw [decide_eq_true_iff]; constructor
      · intro q; omega
      · intro q; omega)
   | (constructor
      · intro q; first | omega | (cases q)
      intro q; omega)
 intro g1_3
 refine al rfl rfl rfl rfl (aa rfl (aJ rfl rfl) (aa rfl (ac rfl) (al rfl rfl rfl rfl (al rfl rfl rfl rfl (aa rfl (aJ rfl rfl) (aa rfl (ac rfl) (al rfl rfl rfl rfl (al rfl rfl rfl rfl (al rfl rfl rfl rfl (al rfl rfl rfl rfl (aa rfl (aJ rfl rfl) (aa rfl (ai rfl) (ag (ab (av (au (.inl rfl) (.cons (ak rfl) .nil) ?_))))))))))))))))
 refine ⟨_, ⟨?_, rfl⟩, inferInstance⟩
 refine congrArg Value.bool ?_
 rw [Bool.eq_iff_iff, hv]
 first
   | (rw [decide_eq_true_iff]; constructor
      · intro q; omega
      · intro q; omega)
   | (constructor
      · intro q; first | omega | (cases q)
      intro q; omega)
theorem mi (c : Cfg) (i : Int) : aC Tryz.prog W0 190 [.agg (cj c).toArray, .int .i64 i] R (fun v B => v = .bool (dR c i) ∧ B = R) := by
 refine aF func190 ntmps190 rfl rfl ?_
 refine ae (ah (am rfl (bL rfl) ?_))
 rintro _ _ ⟨b2, rfl, rfl⟩
 refine aa rfl (ai rfl) (ag (ab (ae (ah (aa rfl (ac rfl) (aa rfl (cF rfl rfl) (aa rfl (ac rfl) ?_)))))))
 refine cG rfl rfl rfl ?_ ?_
 intro g1_3
 refine aa rfl (ac rfl) (ar rfl rfl ?_)
 refine aa rfl (ao rfl bw rfl du rfl (by first | exact Nat.zero_add _ | rfl)) ?_
 refine ar rfl rfl (aa rfl (ap dy rfl (aA rfl)) ?_)
 refine ar rfl rfl (aa rfl (bq dj rfl) (ar rfl rfl (aa rfl (aY rfl rfl) (aa rfl (aT rfl rfl) (aa rfl (ai rfl) (ag (ab (av (au (.inl rfl) (.cons (ak rfl) .nil) ?_)))))))))
 refine ⟨_, ⟨?_, rfl⟩, inferInstance⟩
 refine congrArg Value.bool ?_
 rw [Bool.eq_iff_iff, dR, decide_eq_true_iff]
 first
   | (rw [decide_eq_true_iff]; constructor
      · intro q; omega
      · intro q; omega)
   | (constructor
      · intro q; first | omega | (cases q)
      intro q; omega)
 intro g1_3
 refine al rfl rfl rfl rfl (al rfl rfl rfl rfl (al rfl rfl rfl rfl (al rfl rfl rfl rfl (aa rfl (aJ rfl rfl) (aa rfl (ai rfl) (ag (ab (av (au (.inl rfl) (.cons (ak rfl) .nil) ?_)))))))))
 refine ⟨_, ⟨?_, rfl⟩, inferInstance⟩
 refine congrArg Value.bool ?_
 rw [Bool.eq_iff_iff, dR, decide_eq_true_iff]
 first
   | (rw [decide_eq_true_iff]; constructor
      · intro q; omega
      · intro q; omega)
   | (constructor
      · intro q; first | omega | (cases q)
      intro q; omega)
theorem mj {w : Nat → Bool} {i : Nat} (h : ∀ j, j < i → w j = false) (h2 : w i = false) : ∀ j, j < i + 1 → w j = false := fun j hj => by
 rcases Nat.lt_or_ge j i with q | q
 exact h j q
 rw [show j = i by omega]; exact h2
theorem Az (W0 : World) (R : List HP) (c : Cfg) (h : CfOk W0 c) :
    aC Tryz.prog W0 185 [.agg (cj c).toArray] R (fun v B => ∃ r, v = .tuple #[.bool (eZ c), .int .i64 r] ∧ B = R) := by
 refine aF func185 ntmps185 rfl rfl ?_
 refine ae (ah (am rfl (bL rfl) ?_))
 rintro _ _ ⟨b1, rfl, rfl⟩
 refine aa rfl (ai rfl) (aa rfl (ai rfl) (ag (ab (ae (ae (ah ?_))))))
 refine aa rfl (ao rfl bw rfl du rfl (by first | exact Nat.zero_add _ | rfl)) ?_
 refine aa rfl (ap dy rfl (aA rfl)) ?_
 refine aa rfl (bq dj rfl) (aa rfl (aY rfl rfl) (aa rfl (ac rfl) ?_))
 refine bA rfl rfl rfl ?_ ?_
 intro g1_5
 refine al rfl rfl rfl rfl (al rfl rfl rfl rfl (al rfl rfl rfl rfl (aa rfl (aT rfl rfl) (ag (ab (bR rfl (ae (ah (aa rfl (ai rfl) (aa rfl (ai rfl) (ag (ab (av (aD (au (.inl rfl) (.cons (ak rfl) (.cons (ak rfl) .nil)) ?_)))))))))))))))
 rw [eZ, decide_eq_true (by omega), Bool.true_or]
 exact ⟨_, ⟨0, rfl, rfl⟩, inferInstance⟩
 intro g1_5
 refine aa rfl (ao rfl bw rfl du rfl (by first | exact Nat.zero_add _ | rfl)) ?_
 refine ar rfl rfl (aa rfl (ap dy rfl (aA rfl)) ?_)
 refine ar rfl rfl (aa rfl (bq dj rfl) (ar rfl rfl (aa rfl (cd rfl rfl) (aa rfl (aJ rfl rfl) (ag (ab ?_))))))
 refine ax rfl ?_ ?_
 intro c1
 refine ae (ah (aa rfl (ai rfl) (aa rfl (ai rfl) (ag (ab (av (aD (au (.inl rfl) (.cons (ak rfl) (.cons (ak rfl) .nil)) ?_))))))))
 rw [eZ, decide_eq_true (by omega), Bool.true_or]
 exact ⟨_, ⟨0, rfl, rfl⟩, inferInstance⟩
 intro c1
 refine aB (ab (ae (ae (ah (aa rfl (ai rfl) (ag (ab (b0 ?_))))))))
 refine cC (fun i : Nat => i ≤ c.gl.length ∧ (∀ j, j < i → ix c.cats (c.gl.getD j (0, 0, 0)) = false)) (fun i => [(1, .pointer (some ⟨b1, 0, none⟩)), (4, .int .i64 i)]) (fun _ => pt b1 (d7 c) :: R) (fun i => c.gl.length - i) 0 ?_ ?_ ?_ ?_
 exact ⟨Nat.zero_le _, fun j hj => absurd hj (Nat.not_lt_zero _)⟩
 · repeat (first | exact aX | refine aU rfl ?_)
 exact inferInstance
 intro i ⟨hi, hI⟩
 refine ae (ae (ah (aa rfl (ac rfl) ?_)))
 refine aa rfl (ao rfl bw rfl du rfl (by first | exact Nat.zero_add _ | rfl)) ?_
 refine aa rfl (ap dy rfl (aA rfl)) ?_
 refine aa rfl (bq dj rfl) (aa rfl (aY rfl rfl) (ag (ab ?_)))
 refine ax rfl ?_ ?_
 intro c4
 refine aB (ab (ae (b0 (ae ?_))))
 have hi1 : i < c.gl.length := by omega
 obtain ⟨g, o, hga, hc⟩ := (h.g []).at_ hi1
 obtain ⟨x, hx⟩ : ∃ x, c.gl[i] = x := ⟨_, rfl⟩
 have hgd : c.gl.getD i (0, 0, 0) = x := by simp [List.getD, hi1, hx]
 rw [hx] at hc
 have hbad : ix c.cats x = true → eZ c = true := fun q => by
  rw [eZ, kT (w := fun i => ix c.cats (c.gl.getD i (0, 0, 0))) hi1 (by rw [hgd]; exact q), Bool.or_true]
 have hgood := fun q => mj (w := fun i => ix c.cats (c.gl.getD i (0, 0, 0))) hI (show ix c.cats (c.gl.getD i (0, 0, 0)) = false by rw [hgd]; exact q)
 obtain ⟨v, hv⟩ : ∃ v, dD x.1 c.cats = v := ⟨_, rfl⟩
 have hno := m9 (cats := c.cats) (g := x)
 have hye := jp (cats := c.cats) (g := x)
 rw [hv] at hno hye
 refine ah ?_
 refine aa rfl (ao rfl bw rfl du rfl (by first | exact Nat.zero_add _ | rfl)) ?_
 refine aa rfl (ap dy rfl (aA rfl)) ?_
 refine aa rfl (ac rfl) ?_
 refine aa rfl (ec dj ej rfl hga rfl rfl hi1 (by first | exact Nat.zero_add _ | rfl)) ?_
 refine aa rfl (cQ rD ej rfl hc.weak rfl) ?_
 refine am rfl (dd lq) ?_
 rintro _ _ ⟨bx, rfl, rfl⟩
 refine bE (cK ej rfl rfl rfl rfl rfl) ?_
 rintro _ _ rfl
 refine ag (ab (ae (ah ?_)))
 refine aa rfl (ao rfl dO rfl az rfl (by first | exact Nat.zero_add _ | rfl)) ?_
 refine aa rfl (ap aM rfl (aA rfl)) ?_
 refine aa rfl (ao rfl bw rfl az rfl (by first | exact Nat.zero_add _ | rfl)) ?_
 refine aa rfl (ap aM rfl (aA rfl)) ?_
 refine am rfl (aS vW rfl (qM x.1 c.cats)) ?_
 rintro _ B_ ⟨rfl, hB_⟩
 obtain rfl := hB_.symm
 rw [hv]
 refine aa rfl (bN rfl) (aa rfl (ac rfl) ?_)
 refine bA rfl rfl rfl ?_ ?_
 intro g7_7
 refine al rfl rfl rfl rfl (al rfl rfl rfl rfl (aa rfl (aT rfl rfl) (aa rfl (ac rfl) (al rfl rfl rfl rfl (al rfl rfl rfl rfl (al rfl rfl rfl rfl (aa rfl (aT rfl rfl) (aa rfl (ac rfl) (al rfl rfl rfl rfl (al rfl rfl rfl rfl (al rfl rfl rfl rfl (aa rfl (aT rfl rfl) (aa rfl (ac rfl) (al rfl rfl rfl rfl (al rfl rfl rfl rfl (al rfl rfl rfl rfl (al rfl rfl rfl rfl (al rfl rfl rfl rfl (al rfl rfl rfl rfl (aa rfl (aT rfl rfl) (ag (ab (bR rfl ?_)))))))))))))))))))))))
 refine ae (ah (aa rfl (ac rfl) (aa rfl (ai rfl) (aa rfl (ai rfl) (ag (ab (av (bj (aD (aD (bj (aD (au (.inl rfl) (.cons (ak rfl) (.cons (ak rfl) .nil)) ?_)))))))))))))
 rw [hbad (hye (by first | (intro q; omega) | (intro q; simp_all)))]
 exact ⟨_, ⟨_, rfl, rfl⟩, inferInstance⟩
 intro g7_7
 refine aa rfl (ao rfl dO rfl az rfl (by first | exact Nat.zero_add _ | rfl)) ?_
 refine ar rfl rfl (aa rfl (ap aM rfl (aA rfl)) ?_)
 refine ar rfl rfl (aa rfl (aY rfl rfl) (aa rfl (aJ rfl rfl) (aa rfl (ac rfl) ?_)))
 refine bA rfl rfl rfl ?_ ?_
 intro g7_12
 refine al rfl rfl rfl rfl (al rfl rfl rfl rfl (aa rfl (aT rfl rfl) (aa rfl (ac rfl) (al rfl rfl rfl rfl (al rfl rfl rfl rfl (al rfl rfl rfl rfl (aa rfl (aT rfl rfl) (aa rfl (ac rfl) (al rfl rfl rfl rfl (al rfl rfl rfl rfl (al rfl rfl rfl rfl (al rfl rfl rfl rfl (al rfl rfl rfl rfl (al rfl rfl rfl rfl (aa rfl (aT rfl rfl) (ag (ab (bR rfl (ae (ah (aa rfl (ac rfl) (aa rfl (ai rfl) (aa rfl (ai rfl) ?_)))))))))))))))))))))))
 refine ag (ab (av (bj (aD (aD (bj (aD (au (.inl rfl) (.cons (ak rfl) (.cons (ak rfl) .nil)) ?_))))))))
 rw [hbad (hye (by first | (intro q; omega) | (intro q; simp_all)))]
 exact ⟨_, ⟨_, rfl, rfl⟩, inferInstance⟩
 intro g7_12
 refine aa rfl (ao rfl dO rfl az rfl (by first | exact Nat.zero_add _ | rfl)) ?_
 refine ar rfl rfl (aa rfl (ap aM rfl (aA rfl)) ?_)
 refine ar rfl rfl (aa rfl (cd rfl rfl) (aa rfl (aJ rfl rfl) (aa rfl (ac rfl) ?_)))
 refine bA rfl rfl rfl ?_ ?_
 intro g7_17
 refine al rfl rfl rfl rfl (al rfl rfl rfl rfl (aa rfl (aT rfl rfl) (aa rfl (ac rfl) (al rfl rfl rfl rfl (al rfl rfl rfl rfl (al rfl rfl rfl rfl (al rfl rfl rfl rfl (al rfl rfl rfl rfl (al rfl rfl rfl rfl (aa rfl (aT rfl rfl) (ag (ab (bR rfl (ae (ah (aa rfl (ac rfl) (aa rfl (ai rfl) (aa rfl (ai rfl) (ag (ab (av (bj (aD ?_)))))))))))))))))))))))
 refine aD (bj (aD (au (.inl rfl) (.cons (ak rfl) (.cons (ak rfl) .nil)) ?_)))
 rw [hbad (hye (by first | (intro q; omega) | (intro q; simp_all)))]
 exact ⟨_, ⟨_, rfl, rfl⟩, inferInstance⟩
 intro g7_17
 refine aa rfl (ao rfl dO rfl az rfl (by first | exact Nat.zero_add _ | rfl)) ?_
 refine ar rfl rfl (aa rfl (ap aM rfl (aA rfl)) ?_)
 refine ar rfl rfl (aa rfl (aY rfl rfl) (aa rfl (aJ rfl rfl) (aa rfl (ac rfl) ?_)))
 refine bA rfl rfl rfl ?_ ?_
 intro g7_22
 refine al rfl rfl rfl rfl (al rfl rfl rfl rfl (al rfl rfl rfl rfl (al rfl rfl rfl rfl (al rfl rfl rfl rfl (aa rfl (aT rfl rfl) (ag (ab (bR rfl (ae (ah (aa rfl (ac rfl) (aa rfl (ai rfl) (aa rfl (ai rfl) (ag (ab (av (bj (aD (aD (bj (aD (au (.inl rfl) (.cons (ak rfl) (.cons (ak rfl) .nil)) ?_))))))))))))))))))))))
 rw [hbad (hye (by first | (intro q; omega) | (intro q; simp_all)))]
 exact ⟨_, ⟨_, rfl, rfl⟩, inferInstance⟩
 intro g7_22
 refine aa rfl (ao rfl dO rfl az rfl (by first | exact Nat.zero_add _ | rfl)) ?_
 refine ar rfl rfl (aa rfl (ap aM rfl (aA rfl)) ?_)
 refine ar rfl rfl ?_
 refine aa rfl (ao rfl dO rfl az rfl (by first | exact Nat.zero_add _ | rfl)) ?_
 refine ar rfl rfl (aa rfl (ap aM rfl (aA rfl)) ?_)
 refine ar rfl rfl ?_
 refine aa rfl (dW rfl rfl (aW (by omega))) ?_
 refine ar rfl rfl (aa rfl (cd rfl rfl) (aa rfl (aJ rfl rfl) (ag (ab ?_))))
 refine ax rfl ?_ ?_
 intro c7
 refine ae (ah (aa rfl (ac rfl) (aa rfl (ai rfl) (aa rfl (ai rfl) (ag (ab (av (bj (aD (aD (bj (aD (au (.inl rfl) (.cons (ak rfl) (.cons (ak rfl) .nil)) ?_)))))))))))))
 rw [hbad (hye (by first | (intro q; omega) | (intro q; simp_all)))]
 exact ⟨_, ⟨_, rfl, rfl⟩, inferInstance⟩
 intro c7
 refine aB (bF (ab (ah (aa rfl (ac rfl) ?_))))
 refine aa rfl (bC rfl rfl (by first | exact aW (by omega) | rfl)) ?_
 refine aa rfl (ai rfl) (ag (ab ?_))
 refine cp (i + 1) ?_ ?_ ?_ ?_
 refine ⟨by omega, hgood (hno.2 ⟨by simp_all, by omega, by omega, by omega, by omega⟩)⟩
 omega
 · repeat (first | exact aX | refine aU rfl ?_)
 exact inferInstance
 intro c4
 refine bX (bi (bi (bZ (ab (ae (ah (aa rfl (ai rfl) (aa rfl (ai rfl) (ag (ab (av (au (.inl rfl) (.cons (ak rfl) (.cons (ak rfl) .nil)) ?_))))))))))))
 obtain rfl : i = c.gl.length := by omega
 rw [eZ, decide_eq_false (by omega), Bool.false_or, m8 hI]
 exact ⟨_, ⟨0, rfl, rfl⟩, inferInstance⟩
theorem AA (W0 : World) (R : List HP) (c : Cfg) (h : CfOk W0 c) :
    aC Tryz.prog W0 186 [.agg (cj c).toArray] R (fun v B => ∃ r, v = .tuple #[.bool (fD c), .int .i64 r] ∧ B = R) := by
 refine aF func186 ntmps186 rfl rfl ?_
 refine ae (ah (am rfl (bL rfl) ?_))
 rintro _ _ ⟨b1, rfl, rfl⟩
 refine aa rfl (ai rfl) (aa rfl (ai rfl) (ag (ab (ae (ae (ah ?_))))))
 refine aa rfl (ao rfl bw rfl ie rfl (by first | exact Nat.zero_add _ | rfl)) ?_
 refine aa rfl (ap ks rfl (aA rfl)) ?_
 refine aa rfl (bq g5 rfl) (aa rfl (cd rfl rfl) (ag (ab ?_)))
 refine ax rfl ?_ ?_
 intro c1
 refine ae (ah (aa rfl (ai rfl) (aa rfl (ai rfl) (ag (ab (av (aD (au (.inl rfl) (.cons (ak rfl) (.cons (ak rfl) .nil)) ?_))))))))
 rw [fD, decide_eq_true (by omega), Bool.true_or]
 exact ⟨_, ⟨0, rfl, rfl⟩, inferInstance⟩
 intro c1
 refine aB (ab (ae (ah ?_)))
 refine am rfl (aS call194 rfl (uw 32 (by decide))) ?_
 rintro _ B_ ⟨bt, rfl, hB_⟩
 obtain rfl := hB_.symm
 refine aa rfl (ac rfl) (aa rfl (aZ rfl rfl) (aa rfl (aZ rfl rfl) (aa rfl (ai rfl) (aa rfl (ai rfl) (ag (ab (ae (ae (ah (aa rfl (ai rfl) (ag (ab (b0 ?_)))))))))))))
 refine cC (fun X : Nat × List Int => X.1 ≤ c.rl.length ∧ (∀ j, j < X.1 → iz c j = false) ∧ X.2.length = 32 ∧ RT (et c X.1) X.2) (fun X => [(1, .pointer (some ⟨b1, 0, none⟩)), (4, .pointer (some ⟨bt, 0, none⟩)), (6, .int .i64 X.1)]) (fun X => iB bt X.2 :: pt b1 (d7 c) :: R) (fun X => c.rl.length - X.1) (0, List.replicate 32 (-1)) ?_ ?_ ?_ ?_
 exact ⟨Nat.zero_le _, fun j hj => absurd hj (Nat.not_lt_zero _), rfl, tX 32⟩
 · repeat (first | exact aX | refine aU rfl ?_)
 exact inferInstance
 intro ⟨i, L⟩ ⟨hi, hI, hL, hRT⟩
 dsimp only at hi hI hL hRT ⊢
 refine ae (ae (ah (aa rfl (ac rfl) ?_)))
 refine aa rfl (ao rfl bw rfl ie rfl (by first | exact Nat.zero_add _ | rfl)) ?_
 refine aa rfl (ap ks rfl (aA rfl)) ?_
 refine aa rfl (bq g5 rfl) (aa rfl (aY rfl rfl) (ag (ab ?_)))
 refine ax rfl ?_ ?_
 intro c5
 refine aB (ab (ae (b0 (ae ?_))))
 have hi1 : i < c.rl.length := by omega
 obtain ⟨g, o, hga, hc⟩ := (h.r []).at_ hi1
 obtain ⟨x, hx⟩ : ∃ x, c.rl[i] = x := ⟨_, rfl⟩
 have hA : fC c i = x := by simp [fC, List.getD, hi1, hx]
 rw [hx] at hc
 have hT : et c (i + 1) = if dD x.1 c.cats = true then dT (et c i) 32 x.2.1 x.2.2 i else et c i := by rw [et, hA]
 have hW : iz c i = !(dD x.1 c.cats && decide (dr (et c i) 32 x.2.1 x.2.2 i = 0)) := by rw [iz, hA]
 have hE := qo hRT (n := 32) (by rw [hL]; rfl) x.2.1 x.2.2 i
 have hS := tW hRT (n := 32) (by rw [hL]; rfl) (by decide) x.2.1 x.2.2 i
 rw [← hE] at hW
 have hbad : iz c i = true → fD c = true := fun q => by rw [fD, kT hi1 q, Bool.or_true]
 obtain ⟨v, hv⟩ : ∃ v, dD x.1 c.cats = v := ⟨_, rfl⟩
 rw [hv] at hT hW
 refine ah ?_
 refine aa rfl (ao rfl bw rfl ie rfl (by first | exact Nat.zero_add _ | rfl)) ?_
 refine aa rfl (ap ks rfl (aA rfl)) ?_
 refine aa rfl (ac rfl) ?_
 refine aa rfl (ec g5 gV rfl hga rfl rfl hi1 (by first | exact Nat.zero_add _ | rfl)) ?_
 refine aa rfl (cQ vH gV rfl hc.weak rfl) ?_
 refine am rfl (dd oD) ?_
 rintro _ _ ⟨bx, rfl, rfl⟩
 refine bE (cK gV rfl rfl rfl rfl rfl) ?_
 rintro _ _ rfl
 refine ag (ab (ae (ah ?_)))
 refine aa rfl (ao rfl gW rfl az rfl (by first | exact Nat.zero_add _ | rfl)) ?_
 refine aa rfl (ap aM rfl (aA rfl)) ?_
 refine aa rfl (ao rfl bw rfl az rfl (by first | exact Nat.zero_add _ | rfl)) ?_
 refine aa rfl (ap aM rfl (aA rfl)) ?_
 refine am rfl (aS vW rfl (qM x.1 c.cats)) ?_
 rintro _ B_ ⟨rfl, hB_⟩
 obtain rfl := hB_.symm
 rw [hv]
 refine aa rfl (bN rfl) (aa rfl (ac rfl) ?_)
 refine bA rfl rfl rfl ?_ ?_
 · intro g8_7
   refine al rfl rfl rfl rfl (al rfl rfl rfl rfl (al rfl rfl rfl rfl (al rfl rfl rfl rfl (al rfl rfl rfl rfl (al rfl rfl rfl rfl (al rfl rfl rfl rfl (aa rfl (aT rfl rfl) (ag (ab (bR rfl (ae (ah (aa rfl (ac rfl) (aa rfl (ai rfl) (aa rfl (ai rfl) (ag (ab (av (bj (aD (aD (bj (aD ?_)))))))))))))))))))))))
   refine au (.inl rfl) (.cons (ak rfl) (.cons (ak rfl) .nil)) ?_
   rw [hbad (by rw [hW]; first | (simp_all; done) | (rw [decide_eq_false (by omega), Bool.and_false]; rfl))]
   exact ⟨_, ⟨_, rfl, rfl⟩, inferInstance⟩
 intro g8_7
 refine aa rfl (ac rfl) (ar rfl rfl ?_)
 refine aa rfl (ao rfl gW rfl az rfl (by first | exact Nat.zero_add _ | rfl)) ?_
 refine ar rfl rfl (aa rfl (ap aM rfl (aA rfl)) ?_)
 refine ar rfl rfl ?_
 refine aa rfl (ao rfl gW rfl az rfl (by first | exact Nat.zero_add _ | rfl)) ?_
 refine ar rfl rfl (aa rfl (ap aM rfl (aA rfl)) ?_)
 refine ar rfl rfl (aa rfl (ac rfl) (ar rfl rfl ?_))
 refine am rfl (bz call196 rfl (ux W0 _ bt L (by omega) x.2.1 x.2.2 i)) ?_
 rintro _ B_ ⟨rfl, hB_⟩
 obtain rfl := hB_.symm
 refine ar rfl rfl (aa rfl (co rfl rfl) (aa rfl (aJ rfl rfl) (ag (ab ?_))))
 refine ax rfl ?_ ?_
 · intro c8
   refine ae (ah (aa rfl (ac rfl) (aa rfl (ai rfl) (aa rfl (ai rfl) (ag (ab (av (bj (aD (aD (bj (aD (au (.inl rfl) (.cons (ak rfl) (.cons (ak rfl) .nil)) ?_)))))))))))))
   rw [hbad (by rw [hW]; first | (simp_all; done) | (rw [decide_eq_false (by omega), Bool.and_false]; rfl))]
   exact ⟨_, ⟨_, rfl, rfl⟩, inferInstance⟩
 intro c8
 refine aB (bF (ab ?_))
 have hv1 : v = true := by first | assumption | simp_all
 have hz : eI L x.2.1 x.2.2 i = 0 := by omega
 rw [hv1, if_pos rfl] at hT
 rw [hv1, hz] at hW
 refine ah (aa rfl (ac rfl) ?_)
 refine aa rfl (bC rfl rfl (by first | exact aW (by omega) | rfl)) ?_
 refine aa rfl (ai rfl) (ag (ab ?_))
 refine cp (i + 1, fW L x.2.1 x.2.2 i) ?_ ?_ ?_ ?_
 exact ⟨by omega, mj hI hW, qn.trans hL, by rw [hT]; exact hS⟩
 omega
 · repeat (first | exact aX | refine aU rfl ?_)
 exact inferInstance
 intro c5
 refine bX (bi (bi (bZ (ab (ae (ah (aa rfl (ai rfl) (aa rfl (ai rfl) (ag (ab (av (au (.inl rfl) (.cons (ak rfl) (.cons (ak rfl) .nil)) ?_))))))))))))
 obtain rfl : i = c.rl.length := by omega
 rw [fD, decide_eq_false (by omega), Bool.false_or, m8 hI]
 exact ⟨_, ⟨0, rfl, rfl⟩, inferInstance⟩
theorem AB (W0 : World) (R : List HP) (c : Cfg) (h : CfOk W0 c) :
    aC Tryz.prog W0 189 [.agg (cj c).toArray] R (fun v B => ∃ r, v = .tuple #[.bool (gF c), .int .i64 r] ∧ B = R) := by
 refine aF func189 ntmps189 rfl rfl ?_
 refine ae (ah (am rfl (bL rfl) ?_))
 rintro _ _ ⟨b1, rfl, rfl⟩
 refine aa rfl (ai rfl) (aa rfl (ai rfl) (ag (ab (ae (ae (ah ?_))))))
 refine aa rfl (ao rfl bw rfl iS rfl (by first | exact Nat.zero_add _ | rfl)) ?_
 refine aa rfl (ap km rfl (aA rfl)) ?_
 refine aa rfl (bq jA rfl) (aa rfl (aY rfl rfl) (aa rfl (ac rfl) ?_))
 refine bA rfl rfl rfl ?_ ?_
 intro g1_5
 refine al rfl rfl rfl rfl (al rfl rfl rfl rfl (al rfl rfl rfl rfl (aa rfl (aT rfl rfl) (ag (ab (bR rfl (ae (ah (aa rfl (ai rfl) (aa rfl (ai rfl) (ag (ab (av (aD (au (.inl rfl) (.cons (ak rfl) (.cons (ak rfl) .nil)) ?_)))))))))))))))
 rw [gF, decide_eq_true (by omega), Bool.true_or]
 exact ⟨_, ⟨0, rfl, rfl⟩, inferInstance⟩
 intro g1_5
 refine aa rfl (ao rfl bw rfl iS rfl (by first | exact Nat.zero_add _ | rfl)) ?_
 refine ar rfl rfl (aa rfl (ap km rfl (aA rfl)) ?_)
 refine ar rfl rfl (aa rfl (bq jA rfl) (ar rfl rfl (aa rfl (cd rfl rfl) (aa rfl (aJ rfl rfl) (ag (ab ?_))))))
 refine ax rfl ?_ ?_
 intro c1
 refine ae (ah (aa rfl (ai rfl) (aa rfl (ai rfl) (ag (ab (av (aD (au (.inl rfl) (.cons (ak rfl) (.cons (ak rfl) .nil)) ?_))))))))
 rw [gF, decide_eq_true (by omega), Bool.true_or]
 exact ⟨_, ⟨0, rfl, rfl⟩, inferInstance⟩
 intro c1
 refine aB (ab (ae (ae (ah (aa rfl (ai rfl) (ag (ab (b0 ?_))))))))
 refine cC (fun i : Nat => i ≤ c.sl.length ∧ (∀ j, j < i → i4 c (c.sl.getD j (0, 0)) = false)) (fun i => [(1, .pointer (some ⟨b1, 0, none⟩)), (4, .int .i64 i)]) (fun _ => pt b1 (d7 c) :: R) (fun i => c.sl.length - i) 0 ?_ ?_ ?_ ?_
 exact ⟨Nat.zero_le _, fun j hj => absurd hj (Nat.not_lt_zero _)⟩
 · repeat (first | exact aX | refine aU rfl ?_)
 exact inferInstance
 intro i ⟨hi, hI⟩
 refine ae (ae (ah (aa rfl (ac rfl) ?_)))
 refine aa rfl (ao rfl bw rfl iS rfl (by first | exact Nat.zero_add _ | rfl)) ?_
 refine aa rfl (ap km rfl (aA rfl)) ?_
 refine aa rfl (bq jA rfl) (aa rfl (aY rfl rfl) (ag (ab ?_)))
 refine ax rfl ?_ ?_
 intro c4
 refine aB (ab (ae (b0 (ae ?_))))
 have hi1 : i < c.sl.length := by omega
 obtain ⟨g, o, hga, hc⟩ := (h.s []).at_ hi1
 obtain ⟨x, hx⟩ : ∃ x, c.sl[i] = x := ⟨_, rfl⟩
 have hgd : c.sl.getD i (0, 0) = x := by simp [List.getD, hi1, hx]
 rw [hx] at hc
 have hbad : i4 c x = true → gF c = true := fun q => by
  rw [gF, kT (w := fun i => i4 c (c.sl.getD i (0, 0))) hi1 (by rw [hgd]; exact q), Bool.or_true]
 have hgood := fun q => mj (w := fun i => i4 c (c.sl.getD i (0, 0))) hI (show i4 c (c.sl.getD i (0, 0)) = false by rw [hgd]; exact q)
 obtain ⟨v, hv⟩ : ∃ v, dR c x.1 = v := ⟨_, rfl⟩
 have hW : i4 c x = !(v && decide (1 ≤ x.2 ∧ x.2 ≤ 32)) := by rw [i4, hv]
 refine ah ?_
 refine aa rfl (ao rfl bw rfl iS rfl (by first | exact Nat.zero_add _ | rfl)) ?_
 refine aa rfl (ap km rfl (aA rfl)) ?_
 refine aa rfl (ac rfl) ?_
 refine aa rfl (ec jA lr rfl hga rfl rfl hi1 (by first | exact Nat.zero_add _ | rfl)) ?_
 refine aa rfl (cQ isAgg87 lr rfl hc.weak rfl) ?_
 refine am rfl (dd rE) ?_
 rintro _ _ ⟨bx, rfl, rfl⟩
 refine bE (cK lr rfl rfl rfl rfl rfl) ?_
 rintro _ _ rfl
 refine ag (ab (ae (ah (aa rfl (cu cm bS rfl rfl) ?_))))
 refine aa rfl (ao rfl lu rfl az rfl (by first | exact Nat.zero_add _ | rfl)) ?_
 refine aa rfl (ap aM rfl (aA rfl)) ?_
 refine am rfl (aS oG rfl (mi c x.1)) ?_
 rintro _ B_ ⟨rfl, hB_⟩
 obtain rfl := hB_.symm
 rw [hv]
 refine aa rfl (bN rfl) (aa rfl (ac rfl) ?_)
 refine bA rfl rfl rfl ?_ ?_
 · intro g7_6
   refine al rfl rfl rfl rfl (al rfl rfl rfl rfl (aa rfl (aT rfl rfl) (aa rfl (ac rfl) (al rfl rfl rfl rfl (al rfl rfl rfl rfl (al rfl rfl rfl rfl (aa rfl (aT rfl rfl) (ag (ab (bR rfl (ae (ah (aa rfl (ac rfl) (aa rfl (ai rfl) (aa rfl (ai rfl) (ag (ab (av (bj (aD (aD (bj (aD ?_)))))))))))))))))))))))
   refine au (.inl rfl) (.cons (ak rfl) (.cons (ak rfl) .nil)) ?_
   rw [hbad (by rw [hW]; first | (rw [decide_eq_false (by omega), Bool.and_false]; rfl) | (simp_all; done))]
   exact ⟨_, ⟨_, rfl, rfl⟩, inferInstance⟩
 intro g7_6
 refine aa rfl (ao rfl lu rfl az rfl (by first | exact Nat.zero_add _ | rfl)) ?_
 refine ar rfl rfl (aa rfl (ap aM rfl (aA rfl)) ?_)
 refine ar rfl rfl (aa rfl (aY rfl rfl) (aa rfl (aJ rfl rfl) (aa rfl (ac rfl) ?_)))
 refine bA rfl rfl rfl ?_ ?_
 · intro g7_11
   refine al rfl rfl rfl rfl (al rfl rfl rfl rfl (aa rfl (aT rfl rfl) (ag (ab (bR rfl (ae (ah (aa rfl (ac rfl) (aa rfl (ai rfl) (aa rfl (ai rfl) (ag (ab (av (bj (aD (aD (bj (aD (au (.inl rfl) (.cons (ak rfl) (.cons (ak rfl) .nil)) ?_)))))))))))))))))))
   rw [hbad (by rw [hW]; first | (rw [decide_eq_false (by omega), Bool.and_false]; rfl) | (simp_all; done))]
   exact ⟨_, ⟨_, rfl, rfl⟩, inferInstance⟩
 intro g7_11
 refine aa rfl (ao rfl lu rfl az rfl (by first | exact Nat.zero_add _ | rfl)) ?_
 refine ar rfl rfl (aa rfl (ap aM rfl (aA rfl)) ?_)
 refine ar rfl rfl (aa rfl (cd rfl rfl) (aa rfl (aJ rfl rfl) (ag (ab ?_))))
 refine ax rfl ?_ ?_
 · intro c7
   refine ae (ah (aa rfl (ac rfl) (aa rfl (ai rfl) (aa rfl (ai rfl) (ag (ab (av (bj (aD (aD (bj (aD (au (.inl rfl) (.cons (ak rfl) (.cons (ak rfl) .nil)) ?_)))))))))))))
   rw [hbad (by rw [hW]; first | (rw [decide_eq_false (by omega), Bool.and_false]; rfl) | (simp_all; done))]
   exact ⟨_, ⟨_, rfl, rfl⟩, inferInstance⟩
 intro c7
 refine aB (bF (ab ?_))
 have hv1 : v = true := by first | assumption | simp_all
 rw [hv1, decide_eq_true (by omega)] at hW
 refine ah (aa rfl (ac rfl) ?_)
 refine aa rfl (bC rfl rfl (by first | exact aW (by omega) | rfl)) ?_
 refine aa rfl (ai rfl) (ag (ab ?_))
 refine cp (i + 1) ?_ ?_ ?_ ?_
 exact ⟨by omega, hgood hW⟩
 omega
 · repeat (first | exact aX | refine aU rfl ?_)
 exact inferInstance
 intro c4
 refine bX (bi (bi (bZ (ab (ae (ah (aa rfl (ai rfl) (aa rfl (ai rfl) (ag (ab (av (au (.inl rfl) (.cons (ak rfl) (.cons (ak rfl) .nil)) ?_))))))))))))
 obtain rfl : i = c.sl.length := by omega
 rw [gF, decide_eq_false (by omega), Bool.false_or, m8 hI]
 exact ⟨_, ⟨0, rfl, rfl⟩, inferInstance⟩
theorem l5 (W0 : World) (R : List HP) (c : Cfg) (hs : ∀ A, cq (bI W0 A) c.ga 3 dZ c.gl) (hb : ∀ g ∈ c.gl, 1 ≤ g.2.1 ∧ g.2.1 ≤ 8 ∧ 0 ≤ g.2.2 ∧ g.2.2 ≤ 8 - g.2.1) (hn : c.nl.length ≤ 4) (hg : c.gl.length ≤ 4) :
    aC Tryz.prog W0 191 [.agg (cj c).toArray] R (fun v B => v = .int .i64 (dq c c.gl.length) ∧ B = R) := by
 have hle := qe hb hn
 refine aF func191 ntmps191 rfl rfl ?_
 refine ae (ah (am rfl (bL rfl) ?_))
 rintro _ _ ⟨b1, rfl, rfl⟩
 refine aa rfl (ai rfl) (ag (ab (ae (ah ?_))))
 refine aa rfl (ao rfl bw rfl fg rfl (by first | exact Nat.zero_add _ | rfl)) ?_
 refine aa rfl (ap fZ rfl (aA rfl)) ?_
 refine aa rfl (bq fv rfl) (aa rfl (ai rfl) (ag (ab (ae (ae (ah (aa rfl (ai rfl) (ag (ab (b0 ?_))))))))))
 refine cC (fun i : Nat => i ≤ c.gl.length) (fun i => [(1, .pointer (some ⟨b1, 0, none⟩)), (3, .int .i64 (dq c i)), (4, .int .i64 (i : Nat))]) (fun _ => pt b1 (d7 c) :: R) (fun i => c.gl.length - i) 0 ?_ ?_ ?_ ?_
 exact Nat.zero_le _
 · repeat (first | exact aX | refine aU rfl ?_)
 exact inferInstance
 intro i hi
 refine ae (ae (ah (aa rfl (ac rfl) ?_)))
 refine aa rfl (ao rfl bw rfl du rfl (by first | exact Nat.zero_add _ | rfl)) ?_
 refine aa rfl (ap dy rfl (aA rfl)) ?_
 refine aa rfl (bq dj rfl) (aa rfl (aY rfl rfl) (ag (ab ?_)))
 refine ax rfl ?_ ?_
 intro c3
 refine aB (ab (ae (b0 ?_)))
 have hi1 : i < c.gl.length := by omega
 obtain ⟨g, o, hga, hc⟩ := (hs []).at_ hi1
 obtain ⟨x, hx⟩ : ∃ x, c.gl[i] = x := ⟨_, rfl⟩
 rw [hx] at hc
 have hbx := hb _ (List.getElem_mem hi1)
 rw [hx] at hbx
 have hst : dq c (i + 1) = dq c i + (x.2.1 + x.2.2) := by rw [dq, show c.gl.getD i (0, 0, 0) = x by simp [List.getD, hi1, hx]]
 have hl1 := hle i hi
 refine cY [(b1, 0, cj c), (g, o + i * 3, dZ x)] 16 cV rfl (aV (df hc.weak aK)) (fun hS => ?_)
 refine aj 0 rfl rfl (by kernel_rfl) (by kernel_rfl) (by kernel_rfl) rfl hS (ac rfl) ?_
 refine aj 1 rfl rfl (by kernel_rfl) (by kernel_rfl) (by kernel_rfl) rfl hS (ao rfl bw rfl du rfl (by first | exact Nat.zero_add _ | rfl)) ?_
 refine aj 2 rfl rfl (by kernel_rfl) (by kernel_rfl) (by kernel_rfl) rfl hS (ap dy rfl (by first | exact aG (k := 0) rfl rfl | exact aG (k := 1) rfl rfl)) ?_
 refine aj 3 rfl rfl (by kernel_rfl) (by kernel_rfl) (by kernel_rfl) rfl hS (ac rfl) ?_
 refine aj 4 rfl rfl (by kernel_rfl) (by kernel_rfl) (by kernel_rfl) rfl hS (ec dj ej rfl hga rfl rfl hi1 (by first | exact Nat.zero_add _ | rfl)) ?_
 refine aj 5 rfl rfl (by kernel_rfl) (by kernel_rfl) (by kernel_rfl) rfl hS (ao rfl dO rfl az rfl (by first | exact Nat.zero_add _ | rfl)) ?_
 refine aj 6 rfl rfl (by kernel_rfl) (by kernel_rfl) (by kernel_rfl) rfl hS (ap aM rfl (eW (k := 1) (j := 1) rfl rfl)) ?_
 refine aj 7 rfl rfl (by kernel_rfl) (by kernel_rfl) (by kernel_rfl) rfl hS (bC rfl rfl (aW (by omega))) ?_
 refine aj 8 rfl rfl (by kernel_rfl) (by kernel_rfl) (by kernel_rfl) rfl hS (ao rfl bw rfl du rfl (by first | exact Nat.zero_add _ | rfl)) ?_
 refine aj 9 rfl rfl (by kernel_rfl) (by kernel_rfl) (by kernel_rfl) rfl hS (ap dy rfl (by first | exact aG (k := 0) rfl rfl | exact aG (k := 1) rfl rfl)) ?_
 refine aj 10 rfl rfl (by kernel_rfl) (by kernel_rfl) (by kernel_rfl) rfl hS (ac rfl) ?_
 refine aj 11 rfl rfl (by kernel_rfl) (by kernel_rfl) (by kernel_rfl) rfl hS (ec dj ej rfl hga rfl rfl hi1 (by first | exact Nat.zero_add _ | rfl)) ?_
 refine aj 12 rfl rfl (by kernel_rfl) (by kernel_rfl) (by kernel_rfl) rfl hS (ao rfl dO rfl az rfl (by first | exact Nat.zero_add _ | rfl)) ?_
 refine aj 13 rfl rfl (by kernel_rfl) (by kernel_rfl) (by kernel_rfl) rfl hS (ap aM rfl (eW (k := 1) (j := 2) rfl rfl)) ?_
 refine aj 14 rfl rfl (by kernel_rfl) (by kernel_rfl) (by kernel_rfl) rfl hS (bC rfl rfl (by rw [aW (by omega), hst]; omega : IntKind.wrap .i64 (dq c i + x.2.1 + x.2.2) = dq c (i + 1))) ?_
 refine aj 15 rfl rfl (by kernel_rfl) (by kernel_rfl) (by kernel_rfl) rfl hS (ai rfl) ?_
 refine cg (by kernel_rfl) ?_; clear hS
 refine bF (ab (ah (aa rfl (ac rfl) ?_)))
 refine aa rfl (bC rfl rfl (by first | exact aW (by omega) | rfl)) ?_
 refine aa rfl (ai rfl) (ag (ab ?_))
 refine cp (i + 1) ?_ ?_ ?_ ?_
 omega
 omega
 · repeat (first | exact aX | refine aU rfl ?_)
 exact inferInstance
 intro c3
 refine bX (bi (bi (bZ (ab (ae (ah (aa rfl (ac rfl) (aa rfl (ai rfl) (ag (ab (av (au (.inl rfl) (.cons (ak rfl) .nil) ?_))))))))))))
 obtain rfl : i = c.gl.length := by omega
 exact ⟨_, ⟨rfl, rfl⟩, inferInstance⟩
theorem qN {W0 : World} {c : Cfg} (h : CfOk W0 c) (q : Int) : ∃ (gg og j : Nat) (vs : List Value), (∀ A, cJ (bI W0 A) gg (og + j * 3) vs) ∧ (dR c q = true → c.ga = some ⟨gg, og, none⟩ ∧ q = (j : Int) ∧ j < c.gl.length ∧ ∃ u : Int × Int × Int, vs = dZ u ∧ f0 c q = u.1) := by
 cases hG : dR c q with
 | false => exact ⟨0, 0, 0, [], fun A k v hk => by simp at hk, fun h => by cases h⟩
 | true =>
  have hb : 0 ≤ q ∧ q < c.gl.length := of_decide_eq_true hG
  obtain ⟨j, rfl⟩ : ∃ j : Nat, q = (j : Int) := ⟨q.toNat, by omega⟩
  have hj : j < c.gl.length := by omega
  obtain ⟨gg, og, hga, _⟩ := (h.g []).at_ hj
  refine ⟨gg, og, j, dZ c.gl[j], fun A => ?_, fun _ => ⟨hga, rfl, hj, c.gl[j], rfl, ?_⟩⟩
  obtain ⟨g2, o2, h2, hc2⟩ := (h.g A).at_ hj
  rw [hga] at h2; cases h2; exact hc2
  rw [f0, Int.toNat_natCast]; simp [List.getD, hj]
theorem AC {c : Cfg} {q : Int} (h : dR c q = true) : 0 ≤ q ∧ q < c.gl.length := of_decide_eq_true h
theorem AD {c : Cfg} {q : Int} (h : dR c q = false) : ¬ (0 ≤ q ∧ q < c.gl.length) := of_decide_eq_false h
theorem AE (W0 : World) (R : List HP) (c : Cfg) (h : CfOk W0 c) :
    aC Tryz.prog W0 188 [.agg (cj c).toArray] R (fun v B => ∃ r, v = .tuple #[.bool (eR c), .int .i64 r] ∧ B = R) := by
 refine aF func188 ntmps188 rfl rfl ?_
 refine ae (ah (am rfl (bL rfl) ?_))
 rintro _ _ ⟨b1, rfl, rfl⟩
 refine aa rfl (ai rfl) (aa rfl (ai rfl) (ag (ab (ae (ae (ah ?_))))))
 refine aa rfl (ao rfl bw rfl fg rfl (by first | exact Nat.zero_add _ | rfl)) ?_
 refine aa rfl (ap fZ rfl (aA rfl)) ?_
 refine aa rfl (bq fv rfl) (aa rfl (cd rfl rfl) (ag (ab ?_)))
 refine ax rfl ?_ ?_
 intro c1
 refine ae (ah (aa rfl (ai rfl) (aa rfl (ai rfl) (ag (ab (av (aD (au (.inl rfl) (.cons (ak rfl) (.cons (ak rfl) .nil)) ?_))))))))
 rw [eR, decide_eq_true (by omega), Bool.true_or]
 exact ⟨_, ⟨0, rfl, rfl⟩, inferInstance⟩
 intro c1
 refine aB (ab (ae (ae (ah (aa rfl (ai rfl) (ag (ab (b0 ?_))))))))
 refine cC (fun i : Nat => i ≤ c.nl.length ∧ (∀ j, j < i → gO c (c.nl.getD j (0, 0)) = false)) (fun i => [(1, .pointer (some ⟨b1, 0, none⟩)), (4, .int .i64 i)]) (fun _ => pt b1 (d7 c) :: R) (fun i => c.nl.length - i) 0 ?_ ?_ ?_ ?_
 exact ⟨Nat.zero_le _, fun j hj => absurd hj (Nat.not_lt_zero _)⟩
 · repeat (first | exact aX | refine aU rfl ?_)
 exact inferInstance
 intro i ⟨hi, hI⟩
 refine ae (ae (ah (aa rfl (ac rfl) ?_)))
 refine aa rfl (ao rfl bw rfl fg rfl (by first | exact Nat.zero_add _ | rfl)) ?_
 refine aa rfl (ap fZ rfl (aA rfl)) ?_
 refine aa rfl (bq fv rfl) (aa rfl (aY rfl rfl) (ag (ab ?_)))
 refine ax rfl ?_ ?_
 intro c4
 refine aB (ab (ae (b0 (ae ?_))))
 have hi1 : i < c.nl.length := by omega
 obtain ⟨g, o, hga, hc⟩ := (h.n []).at_ hi1
 obtain ⟨⟨p, q⟩, hx⟩ : ∃ x, c.nl[i] = x := ⟨_, rfl⟩
 have hgd : c.nl.getD i (0, 0) = (p, q) := by simp [List.getD, hi1, hx]
 rw [hx] at hc
 have hbad : gO c (p, q) = true → eR c = true := fun z => by
  rw [eR, kT (w := fun i => gO c (c.nl.getD i (0, 0))) hi1 (by rw [hgd]; exact z), Bool.or_true]
 have hgood := fun z => mj (w := fun i => gO c (c.nl.getD i (0, 0))) hI (show gO c (c.nl.getD i (0, 0)) = false by rw [hgd]; exact z)
 obtain ⟨g1, o1, j1, vs1, hcv1, hr1⟩ := qN h p
 obtain ⟨g2, o2, j2, vs2, hcv2, hr2⟩ := qN h q
 obtain ⟨w1, hw1⟩ : ∃ w, dR c p = w := ⟨_, rfl⟩
 obtain ⟨w2, hw2⟩ : ∃ w, dR c q = w := ⟨_, rfl⟩
 have hW : gO c (p, q) = !(w1 && w2 && decide (p ≠ q) && hX (f0 c p) (f0 c q)) := by rw [gO, hw1, hw2]
 rw [hw1] at hr1
 rw [hw2] at hr2
 refine ah ?_
 refine aa rfl (ao rfl bw rfl fg rfl (by first | exact Nat.zero_add _ | rfl)) ?_
 refine aa rfl (ap fZ rfl (aA rfl)) ?_
 refine aa rfl (ac rfl) ?_
 refine aa rfl (ec fv gt rfl hga rfl rfl hi1 (by first | exact Nat.zero_add _ | rfl)) ?_
 refine aa rfl (cQ oC gt rfl hc.weak rfl) ?_
 refine am rfl (dd mz) ?_
 rintro _ _ ⟨bx, rfl, rfl⟩
 refine bE (cK gt rfl rfl rfl rfl rfl) ?_
 rintro _ _ rfl
 refine ag (ab (ae ?_))
 refine cY [(b1, 0, cj c), (bx, 0, dS (p, q)), (g1, o1 + j1 * 3, vs1), (g2, o2 + j2 * 3, vs2)] 37 cV rfl (aV (aV (df (hcv1 _) (df (hcv2 _) aK)))) (fun hS => ?_)
 refine aj 0 rfl rfl (by kernel_rfl) (by kernel_rfl) (by kernel_rfl) rfl hS (cQ cm bS rfl (by first | exact dA (k := 0) rfl | exact dA (k := 1) rfl | exact dA (k := 2) rfl | exact dA (k := 3) rfl | exact dA (k := 4) rfl) rfl) ?_
 refine aj 1 rfl rfl (by kernel_rfl) (by kernel_rfl) (by kernel_rfl) rfl hS (ao rfl fw rfl az rfl (by first | exact Nat.zero_add _ | rfl)) ?_
 refine aj 2 rfl rfl (by kernel_rfl) (by kernel_rfl) (by kernel_rfl) rfl hS (ap aM rfl (by first | exact aG (k := 0) rfl rfl | exact aG (k := 1) rfl rfl | exact aG (k := 2) rfl rfl | exact aG (k := 3) rfl rfl | exact aG (k := 4) rfl rfl)) ?_
 refine bB 3 (by kernel_rfl) rfl rfl (aS oG rfl (mi c p)) rfl ?_; clear hS
 rintro _ B_ ⟨rfl, hB_⟩
 obtain rfl := hB_.symm
 rw [hw1]
 refine ⟨(aV (aV (df (hcv1 _) (df (hcv2 _) aK)))), fun hS => ?_⟩
 refine aj 4 rfl rfl (by kernel_rfl) (by kernel_rfl) (by kernel_rfl) rfl hS (bN rfl) ?_
 refine aj 5 rfl rfl (by kernel_rfl) (by kernel_rfl) (by kernel_rfl) rfl hS (ac rfl) ?_
 refine f7 (t := 27) rfl ?_ ?_
 · intro g7_6
   refine bp 6 rfl rfl (by kernel_rfl) (by kernel_rfl) (by kernel_rfl) rfl hS ?_
   refine bp 7 rfl rfl (by kernel_rfl) (by kernel_rfl) (by kernel_rfl) rfl hS ?_
   refine bp 8 rfl rfl (by kernel_rfl) (by kernel_rfl) (by kernel_rfl) rfl hS ?_
   refine bp 9 rfl rfl (by kernel_rfl) (by kernel_rfl) (by kernel_rfl) rfl hS ?_
   refine bp 10 rfl rfl (by kernel_rfl) (by kernel_rfl) (by kernel_rfl) rfl hS ?_
   refine aj 11 rfl rfl (by kernel_rfl) (by kernel_rfl) (by kernel_rfl) rfl hS (aT rfl rfl) ?_
   refine aj 12 rfl rfl (by kernel_rfl) (by kernel_rfl) (by kernel_rfl) rfl hS (ac rfl) ?_
   refine bp 13 rfl rfl (by kernel_rfl) (by kernel_rfl) (by kernel_rfl) rfl hS ?_
   refine bp 14 rfl rfl (by kernel_rfl) (by kernel_rfl) (by kernel_rfl) rfl hS ?_
   refine bp 15 rfl rfl (by kernel_rfl) (by kernel_rfl) (by kernel_rfl) rfl hS ?_
   refine bp 16 rfl rfl (by kernel_rfl) (by kernel_rfl) (by kernel_rfl) rfl hS ?_
   refine bp 17 rfl rfl (by kernel_rfl) (by kernel_rfl) (by kernel_rfl) rfl hS ?_
   refine aj 18 rfl rfl (by kernel_rfl) (by kernel_rfl) (by kernel_rfl) rfl hS (aT rfl rfl) ?_
   refine aj 19 rfl rfl (by kernel_rfl) (by kernel_rfl) (by kernel_rfl) rfl hS (ac rfl) ?_
   refine bp 20 rfl rfl (by kernel_rfl) (by kernel_rfl) (by kernel_rfl) rfl hS ?_
   refine bp 21 rfl rfl (by kernel_rfl) (by kernel_rfl) (by kernel_rfl) rfl hS ?_
   refine bp 22 rfl rfl (by kernel_rfl) (by kernel_rfl) (by kernel_rfl) rfl hS ?_
   refine bp 23 rfl rfl (by kernel_rfl) (by kernel_rfl) (by kernel_rfl) rfl hS ?_
   refine bp 24 rfl rfl (by kernel_rfl) (by kernel_rfl) (by kernel_rfl) rfl hS ?_
   refine bp 25 rfl rfl (by kernel_rfl) (by kernel_rfl) (by kernel_rfl) rfl hS ?_
   refine bp 26 rfl rfl (by kernel_rfl) (by kernel_rfl) (by kernel_rfl) rfl hS ?_
   refine bp 27 rfl rfl (by kernel_rfl) (by kernel_rfl) (by kernel_rfl) rfl hS ?_
   refine bp 28 rfl rfl (by kernel_rfl) (by kernel_rfl) (by kernel_rfl) rfl hS ?_
   refine bp 29 rfl rfl (by kernel_rfl) (by kernel_rfl) (by kernel_rfl) rfl hS ?_
   refine bp 30 rfl rfl (by kernel_rfl) (by kernel_rfl) (by kernel_rfl) rfl hS ?_
   refine bp 31 rfl rfl (by kernel_rfl) (by kernel_rfl) (by kernel_rfl) rfl hS ?_
   refine bp 32 rfl rfl (by kernel_rfl) (by kernel_rfl) (by kernel_rfl) rfl hS ?_
   refine bp 33 rfl rfl (by kernel_rfl) (by kernel_rfl) (by kernel_rfl) rfl hS ?_
   refine bp 34 rfl rfl (by kernel_rfl) (by kernel_rfl) (by kernel_rfl) rfl hS ?_
   refine bp 35 rfl rfl (by kernel_rfl) (by kernel_rfl) (by kernel_rfl) rfl hS ?_
   refine aj 36 rfl rfl (by kernel_rfl) (by kernel_rfl) (by kernel_rfl) rfl hS (aT rfl rfl) ?_
   refine cg (by kernel_rfl) ?_; clear hS
   refine ab (bR rfl (ae (ah (aa rfl (ac rfl) (aa rfl (ai rfl) (aa rfl (ai rfl) (ag (ab (av (bj (aD (aD (bj (aD (au (.inl rfl) (.cons (ak rfl) (.cons (ak rfl) .nil)) ?_)))))))))))))))
   rw [hbad (by rw [hW]; first | (simp_all; done) | (rw [decide_eq_false (by omega)]; simp))]
   exact ⟨_, ⟨_, rfl, rfl⟩, inferInstance⟩
 intro g7_6
 refine aj 6 rfl rfl (by kernel_rfl) (by kernel_rfl) (by kernel_rfl) rfl hS (cQ cm bS rfl (by first | exact dA (k := 0) rfl | exact dA (k := 1) rfl | exact dA (k := 2) rfl | exact dA (k := 3) rfl | exact dA (k := 4) rfl) rfl) ?_
 refine aj 7 rfl rfl (by kernel_rfl) (by kernel_rfl) (by kernel_rfl) rfl hS (ao rfl fw rfl az rfl (by first | exact Nat.zero_add _ | rfl)) ?_
 refine aj 8 rfl rfl (by kernel_rfl) (by kernel_rfl) (by kernel_rfl) rfl hS (ap aM rfl (by first | exact aG (k := 0) rfl rfl | exact aG (k := 1) rfl rfl | exact aG (k := 2) rfl rfl | exact aG (k := 3) rfl rfl | exact aG (k := 4) rfl rfl)) ?_
 refine bB 9 (by kernel_rfl) rfl rfl (aS oG rfl (mi c q)) rfl ?_; clear hS
 rintro _ B_ ⟨rfl, hB_⟩
 obtain rfl := hB_.symm
 rw [hw2]
 refine ⟨(aV (aV (df (hcv1 _) (df (hcv2 _) aK)))), fun hS => ?_⟩
 refine aj 10 rfl rfl (by kernel_rfl) (by kernel_rfl) (by kernel_rfl) rfl hS (bN rfl) ?_
 refine aj 11 rfl rfl (by kernel_rfl) (by kernel_rfl) (by kernel_rfl) rfl hS (aJ rfl rfl) ?_
 refine aj 12 rfl rfl (by kernel_rfl) (by kernel_rfl) (by kernel_rfl) rfl hS (ac rfl) ?_
 refine f7 (t := 34) rfl ?_ ?_
 · intro g7_13
   refine bp 13 rfl rfl (by kernel_rfl) (by kernel_rfl) (by kernel_rfl) rfl hS ?_
   refine bp 14 rfl rfl (by kernel_rfl) (by kernel_rfl) (by kernel_rfl) rfl hS ?_
   refine bp 15 rfl rfl (by kernel_rfl) (by kernel_rfl) (by kernel_rfl) rfl hS ?_
   refine bp 16 rfl rfl (by kernel_rfl) (by kernel_rfl) (by kernel_rfl) rfl hS ?_
   refine bp 17 rfl rfl (by kernel_rfl) (by kernel_rfl) (by kernel_rfl) rfl hS ?_
   refine aj 18 rfl rfl (by kernel_rfl) (by kernel_rfl) (by kernel_rfl) rfl hS (aT rfl rfl) ?_
   refine aj 19 rfl rfl (by kernel_rfl) (by kernel_rfl) (by kernel_rfl) rfl hS (ac rfl) ?_
   refine bp 20 rfl rfl (by kernel_rfl) (by kernel_rfl) (by kernel_rfl) rfl hS ?_
   refine bp 21 rfl rfl (by kernel_rfl) (by kernel_rfl) (by kernel_rfl) rfl hS ?_
   refine bp 22 rfl rfl (by kernel_rfl) (by kernel_rfl) (by kernel_rfl) rfl hS ?_
   refine bp 23 rfl rfl (by kernel_rfl) (by kernel_rfl) (by kernel_rfl) rfl hS ?_
   refine bp 24 rfl rfl (by kernel_rfl) (by kernel_rfl) (by kernel_rfl) rfl hS ?_
   refine bp 25 rfl rfl (by kernel_rfl) (by kernel_rfl) (by kernel_rfl) rfl hS ?_
   refine bp 26 rfl rfl (by kernel_rfl) (by kernel_rfl) (by kernel_rfl) rfl hS ?_
   refine bp 27 rfl rfl (by kernel_rfl) (by kernel_rfl) (by kernel_rfl) rfl hS ?_
   refine bp 28 rfl rfl (by kernel_rfl) (by kernel_rfl) (by kernel_rfl) rfl hS ?_
   refine bp 29 rfl rfl (by kernel_rfl) (by kernel_rfl) (by kernel_rfl) rfl hS ?_
   refine bp 30 rfl rfl (by kernel_rfl) (by kernel_rfl) (by kernel_rfl) rfl hS ?_
   refine bp 31 rfl rfl (by kernel_rfl) (by kernel_rfl) (by kernel_rfl) rfl hS ?_
   refine bp 32 rfl rfl (by kernel_rfl) (by kernel_rfl) (by kernel_rfl) rfl hS ?_
   refine bp 33 rfl rfl (by kernel_rfl) (by kernel_rfl) (by kernel_rfl) rfl hS ?_
   refine bp 34 rfl rfl (by kernel_rfl) (by kernel_rfl) (by kernel_rfl) rfl hS ?_
   refine bp 35 rfl rfl (by kernel_rfl) (by kernel_rfl) (by kernel_rfl) rfl hS ?_
   refine aj 36 rfl rfl (by kernel_rfl) (by kernel_rfl) (by kernel_rfl) rfl hS (aT rfl rfl) ?_
   refine cg (by kernel_rfl) ?_; clear hS
   refine ab (bR rfl (ae (ah (aa rfl (ac rfl) (aa rfl (ai rfl) (aa rfl (ai rfl) (ag (ab (av (bj (aD (aD (bj (aD (au (.inl rfl) (.cons (ak rfl) (.cons (ak rfl) .nil)) ?_)))))))))))))))
   rw [hbad (by rw [hW]; first | (simp_all; done) | (rw [decide_eq_false (by omega)]; simp))]
   exact ⟨_, ⟨_, rfl, rfl⟩, inferInstance⟩
 intro g7_13
 refine aj 13 rfl rfl (by kernel_rfl) (by kernel_rfl) (by kernel_rfl) rfl hS (ao rfl fw rfl az rfl (by first | exact Nat.zero_add _ | rfl)) ?_
 refine aj 14 rfl rfl (by kernel_rfl) (by kernel_rfl) (by kernel_rfl) rfl hS (ap aM rfl (by first | exact aG (k := 0) rfl rfl | exact aG (k := 1) rfl rfl | exact aG (k := 2) rfl rfl | exact aG (k := 3) rfl rfl | exact aG (k := 4) rfl rfl)) ?_
 refine aj 15 rfl rfl (by kernel_rfl) (by kernel_rfl) (by kernel_rfl) rfl hS (ao rfl fw rfl az rfl (by first | exact Nat.zero_add _ | rfl)) ?_
 refine aj 16 rfl rfl (by kernel_rfl) (by kernel_rfl) (by kernel_rfl) rfl hS (ap aM rfl (by first | exact aG (k := 0) rfl rfl | exact aG (k := 1) rfl rfl | exact aG (k := 2) rfl rfl | exact aG (k := 3) rfl rfl | exact aG (k := 4) rfl rfl)) ?_
 refine aj 17 rfl rfl (by kernel_rfl) (by kernel_rfl) (by kernel_rfl) rfl hS (cz rfl rfl) ?_
 refine aj 18 rfl rfl (by kernel_rfl) (by kernel_rfl) (by kernel_rfl) rfl hS (aJ rfl rfl) ?_
 refine aj 19 rfl rfl (by kernel_rfl) (by kernel_rfl) (by kernel_rfl) rfl hS (ac rfl) ?_
 refine f7 (t := 41) rfl ?_ ?_
 · intro g7_20
   refine bp 20 rfl rfl (by kernel_rfl) (by kernel_rfl) (by kernel_rfl) rfl hS ?_
   refine bp 21 rfl rfl (by kernel_rfl) (by kernel_rfl) (by kernel_rfl) rfl hS ?_
   refine bp 22 rfl rfl (by kernel_rfl) (by kernel_rfl) (by kernel_rfl) rfl hS ?_
   refine bp 23 rfl rfl (by kernel_rfl) (by kernel_rfl) (by kernel_rfl) rfl hS ?_
   refine bp 24 rfl rfl (by kernel_rfl) (by kernel_rfl) (by kernel_rfl) rfl hS ?_
   refine bp 25 rfl rfl (by kernel_rfl) (by kernel_rfl) (by kernel_rfl) rfl hS ?_
   refine bp 26 rfl rfl (by kernel_rfl) (by kernel_rfl) (by kernel_rfl) rfl hS ?_
   refine bp 27 rfl rfl (by kernel_rfl) (by kernel_rfl) (by kernel_rfl) rfl hS ?_
   refine bp 28 rfl rfl (by kernel_rfl) (by kernel_rfl) (by kernel_rfl) rfl hS ?_
   refine bp 29 rfl rfl (by kernel_rfl) (by kernel_rfl) (by kernel_rfl) rfl hS ?_
   refine bp 30 rfl rfl (by kernel_rfl) (by kernel_rfl) (by kernel_rfl) rfl hS ?_
   refine bp 31 rfl rfl (by kernel_rfl) (by kernel_rfl) (by kernel_rfl) rfl hS ?_
   refine bp 32 rfl rfl (by kernel_rfl) (by kernel_rfl) (by kernel_rfl) rfl hS ?_
   refine bp 33 rfl rfl (by kernel_rfl) (by kernel_rfl) (by kernel_rfl) rfl hS ?_
   refine bp 34 rfl rfl (by kernel_rfl) (by kernel_rfl) (by kernel_rfl) rfl hS ?_
   refine bp 35 rfl rfl (by kernel_rfl) (by kernel_rfl) (by kernel_rfl) rfl hS ?_
   refine aj 36 rfl rfl (by kernel_rfl) (by kernel_rfl) (by kernel_rfl) rfl hS (aT rfl rfl) ?_
   refine cg (by kernel_rfl) ?_; clear hS
   refine ab (bR rfl (ae (ah (aa rfl (ac rfl) (aa rfl (ai rfl) (aa rfl (ai rfl) (ag (ab (av (bj (aD (aD (bj (aD (au (.inl rfl) (.cons (ak rfl) (.cons (ak rfl) .nil)) ?_)))))))))))))))
   rw [hbad (by rw [hW]; first | (simp_all; done) | (rw [decide_eq_false (by omega)]; simp))]
   exact ⟨_, ⟨_, rfl, rfl⟩, inferInstance⟩
 intro g7_20
 obtain rfl : w1 = true := by first | assumption | simp_all
 obtain rfl : w2 = true := by first | assumption | simp_all
 obtain ⟨ha1, hq1, hj1, u1, rfl, hl1⟩ := hr1 rfl
 obtain ⟨ha2, hq2, hj2, u2, rfl, hl2⟩ := hr2 rfl
 rw [hl1, hl2] at hW
 refine aj 20 rfl rfl (by kernel_rfl) (by kernel_rfl) (by kernel_rfl) rfl hS (ao rfl bw rfl du rfl (by first | exact Nat.zero_add _ | rfl)) ?_
 refine aj 21 rfl rfl (by kernel_rfl) (by kernel_rfl) (by kernel_rfl) rfl hS (ap dy rfl (by first | exact aG (k := 0) rfl rfl | exact aG (k := 1) rfl rfl | exact aG (k := 2) rfl rfl | exact aG (k := 3) rfl rfl | exact aG (k := 4) rfl rfl)) ?_
 refine aj 22 rfl rfl (by kernel_rfl) (by kernel_rfl) (by kernel_rfl) rfl hS (ao rfl fw rfl az rfl (by first | exact Nat.zero_add _ | rfl)) ?_
 refine aj 23 rfl rfl (by kernel_rfl) (by kernel_rfl) (by kernel_rfl) rfl hS (ap aM rfl (by first | exact aG (k := 0) rfl rfl | exact aG (k := 1) rfl rfl | exact aG (k := 2) rfl rfl | exact aG (k := 3) rfl rfl | exact aG (k := 4) rfl rfl)) ?_
 refine aj 24 rfl rfl (by kernel_rfl) (by kernel_rfl) (by kernel_rfl) rfl hS (ec dj ej rfl ha1 rfl hq1 hj1 (by first | exact Nat.zero_add _ | rfl)) ?_
 refine aj 25 rfl rfl (by kernel_rfl) (by kernel_rfl) (by kernel_rfl) rfl hS (ao rfl dO rfl az rfl (by first | exact Nat.zero_add _ | rfl)) ?_
 refine aj 26 rfl rfl (by kernel_rfl) (by kernel_rfl) (by kernel_rfl) rfl hS (ap aM rfl (eW (k := 2) (j := 0) rfl rfl)) ?_
 refine aj 27 rfl rfl (by kernel_rfl) (by kernel_rfl) (by kernel_rfl) rfl hS (ao rfl bw rfl du rfl (by first | exact Nat.zero_add _ | rfl)) ?_
 refine aj 28 rfl rfl (by kernel_rfl) (by kernel_rfl) (by kernel_rfl) rfl hS (ap dy rfl (by first | exact aG (k := 0) rfl rfl | exact aG (k := 1) rfl rfl | exact aG (k := 2) rfl rfl | exact aG (k := 3) rfl rfl | exact aG (k := 4) rfl rfl)) ?_
 refine aj 29 rfl rfl (by kernel_rfl) (by kernel_rfl) (by kernel_rfl) rfl hS (ao rfl fw rfl az rfl (by first | exact Nat.zero_add _ | rfl)) ?_
 refine aj 30 rfl rfl (by kernel_rfl) (by kernel_rfl) (by kernel_rfl) rfl hS (ap aM rfl (by first | exact aG (k := 0) rfl rfl | exact aG (k := 1) rfl rfl | exact aG (k := 2) rfl rfl | exact aG (k := 3) rfl rfl | exact aG (k := 4) rfl rfl)) ?_
 refine aj 31 rfl rfl (by kernel_rfl) (by kernel_rfl) (by kernel_rfl) rfl hS (ec dj ej rfl ha2 rfl hq2 hj2 (by first | exact Nat.zero_add _ | rfl)) ?_
 refine aj 32 rfl rfl (by kernel_rfl) (by kernel_rfl) (by kernel_rfl) rfl hS (ao rfl dO rfl az rfl (by first | exact Nat.zero_add _ | rfl)) ?_
 refine aj 33 rfl rfl (by kernel_rfl) (by kernel_rfl) (by kernel_rfl) rfl hS (ap aM rfl (eW (k := 3) (j := 0) rfl rfl)) ?_
 refine bB 34 (by kernel_rfl) rfl rfl (aS call295 rfl (y6 u1.1 u2.1)) rfl ?_; clear hS
 rintro _ B_ ⟨rfl, hB_⟩
 obtain rfl := hB_.symm
 refine ⟨(aV (aV (df (hcv1 _) (df (hcv2 _) aK)))), fun hS => ?_⟩
 refine aj 35 rfl rfl (by kernel_rfl) (by kernel_rfl) (by kernel_rfl) rfl hS (bN rfl) ?_
 refine aj 36 rfl rfl (by kernel_rfl) (by kernel_rfl) (by kernel_rfl) rfl hS (aJ rfl rfl) ?_
 refine cg (by kernel_rfl) ?_; clear hS
 refine ab ?_
 refine ax rfl ?_ ?_
 · intro c7
   refine ae (ah (aa rfl (ac rfl) (aa rfl (ai rfl) (aa rfl (ai rfl) (ag (ab (av (bj (aD (aD (bj (aD (au (.inl rfl) (.cons (ak rfl) (.cons (ak rfl) .nil)) ?_)))))))))))))
   rw [hbad (by rw [hW]; first | (simp_all; done) | (rw [decide_eq_false (by omega)]; simp))]
   exact ⟨_, ⟨_, rfl, rfl⟩, inferInstance⟩
 intro c7
 refine aB (bF (ab (ah (aa rfl (ac rfl) ?_))))
 refine aa rfl (bC rfl rfl (by first | exact aW (by omega) | rfl)) ?_
 refine aa rfl (ai rfl) (ag (ab ?_))
 refine cp (i + 1) ?_ ?_ ?_ ?_
 refine ⟨by omega, hgood ?_⟩
 rw [hW, decide_eq_true (by omega)]; simp_all
 omega
 · repeat (first | exact aX | refine aU rfl ?_)
 exact inferInstance
 intro c4
 refine bX (bi (bi (bZ (ab (ae (ah (aa rfl (ai rfl) (aa rfl (ai rfl) (ag (ab (av (au (.inl rfl) (.cons (ak rfl) (.cons (ak rfl) .nil)) ?_))))))))))))
 obtain rfl : i = c.nl.length := by omega
 rw [eR, decide_eq_false (by omega), Bool.false_or, m8 hI]
 exact ⟨_, ⟨0, rfl, rfl⟩, inferInstance⟩
theorem uy {c : Cfg} {g : Int} {k j : Nat} (hj : j < k) (h : j < c.pl.length) (e : (c.pl[j]).2 = g) : gG c g k = true := by
 rw [gG, List.any_eq_true]
 exact ⟨c.pl[j], List.mem_take_iff_getElem.2 ⟨j, by omega, rfl⟩, decide_eq_true e⟩
theorem uz {c : Cfg} {g : Int} {k : Nat} (hI : ∀ j, j < k → (c.pl.getD j (0, 0)).2 ≠ g) : gG c g k = false := by
 rw [gG, List.any_eq_false]
 intro x hx
 obtain ⟨j, hj, rfl⟩ := List.mem_take_iff_getElem.1 hx
 have := hI j (by omega)
 rw [show c.pl.getD j (0, 0) = c.pl[j]'(by omega) by simp [List.getD, show j < c.pl.length by omega]] at this
 simpa using this
theorem AF (W0 : World) (R : List HP) (c : Cfg) (h : CfOk W0 c) :
    aC Tryz.prog W0 187 [.agg (cj c).toArray] R (fun v B => ∃ r, v = .tuple #[.bool (gH c), .int .i64 r] ∧ B = R) := by
 refine aF func187 ntmps187 rfl rfl ?_
 refine ae (ah (am rfl (bL rfl) ?_))
 rintro _ _ ⟨b1, rfl, rfl⟩
 refine aa rfl (ai rfl) (aa rfl (ai rfl) (ag (ab (ae (ae (ah ?_))))))
 refine aa rfl (ao rfl bw rfl fh rfl (by first | exact Nat.zero_add _ | rfl)) ?_
 refine aa rfl (ap ig rfl (aA rfl)) ?_
 refine aa rfl (bq eT rfl) (aa rfl (cd rfl rfl) (ag (ab ?_)))
 refine ax rfl ?_ ?_
 intro c1
 refine ae (ah (aa rfl (ai rfl) (aa rfl (ai rfl) (ag (ab (av (aD (au (.inl rfl) (.cons (ak rfl) (.cons (ak rfl) .nil)) ?_))))))))
 rw [gH, decide_eq_true (by omega), Bool.true_or]
 exact ⟨_, ⟨0, rfl, rfl⟩, inferInstance⟩
 intro c1
 refine aB (ab (ae (ae (ah (aa rfl (ai rfl) (ag (ab (b0 ?_))))))))
 refine cC (fun i : Nat => i ≤ c.pl.length ∧ (∀ j, j < i → iA c j = false)) (fun i => [(1, .pointer (some ⟨b1, 0, none⟩)), (4, .int .i64 i)]) (fun _ => pt b1 (d7 c) :: R) (fun i => c.pl.length - i) 0 ?_ ?_ ?_ ?_
 exact ⟨Nat.zero_le _, fun j hj => absurd hj (Nat.not_lt_zero _)⟩
 · repeat (first | exact aX | refine aU rfl ?_)
 exact inferInstance
 intro i ⟨hi, hI⟩
 refine ae (ae (ah (aa rfl (ac rfl) ?_)))
 refine aa rfl (ao rfl bw rfl fh rfl (by first | exact Nat.zero_add _ | rfl)) ?_
 refine aa rfl (ap ig rfl (aA rfl)) ?_
 refine aa rfl (bq eT rfl) (aa rfl (aY rfl rfl) (ag (ab ?_)))
 refine ax rfl ?_ ?_
 intro c4
 refine aB (ab (ae (b0 (ae ?_))))
 have hi1 : i < c.pl.length := by omega
 obtain ⟨g, o, hga, hc⟩ := (h.p []).at_ hi1
 obtain ⟨⟨p, q⟩, hx⟩ : ∃ x, c.pl[i] = x := ⟨_, rfl⟩
 have hgd : c.pl.getD i (0, 0) = (p, q) := by simp [List.getD, hi1, hx]
 rw [hx] at hc
 have hbad : iA c i = true → gH c = true := fun z => by
  rw [gH, kT hi1 z, Bool.or_true]
 have hgood := fun z => mj (w := iA c) hI z
 obtain ⟨g1, o1, j1, vs1, hcv1, hr1⟩ := qN h q
 obtain ⟨w1, hw1⟩ : ∃ w, dR c q = w := ⟨_, rfl⟩
 obtain ⟨v1, hv1⟩ : ∃ w, dD p c.cats = w := ⟨_, rfl⟩
 have hW : iA c i = (!v1 || (decide (q ≠ -1) && (!w1 || decide (p ≠ f0 c q) || gG c q i))) := by rw [iA, hgd, hw1, hv1]
 rw [hw1] at hr1
 have hlt : w1 = true → 0 ≤ q := fun z => (AC (hw1.trans z)).1
 have hge : w1 = false → ¬ (0 ≤ q ∧ q < c.gl.length) := fun z => AD (hw1.trans z)
 refine ah ?_
 refine aa rfl (ao rfl bw rfl fh rfl (by first | exact Nat.zero_add _ | rfl)) ?_
 refine aa rfl (ap ig rfl (aA rfl)) ?_
 refine aa rfl (ac rfl) ?_
 refine aa rfl (ec eT eN rfl hga rfl rfl hi1 (by first | exact Nat.zero_add _ | rfl)) ?_
 refine aa rfl (cQ mt eN rfl hc.weak rfl) ?_
 refine am rfl (dd jy) ?_
 rintro _ _ ⟨bx, rfl, rfl⟩
 refine bE (cK eN rfl rfl rfl rfl rfl) ?_
 rintro _ _ rfl
 refine ag (ab (ae (ae (ah ?_))))
 refine aa rfl (ao rfl eB rfl az rfl (by first | exact Nat.zero_add _ | rfl)) ?_
 refine aa rfl (ap aM rfl (aA rfl)) ?_
 refine aa rfl (ao rfl bw rfl az rfl (by first | exact Nat.zero_add _ | rfl)) ?_
 refine aa rfl (ap aM rfl (aA rfl)) ?_
 refine am rfl (aS vW rfl (qM p c.cats)) ?_
 rintro _ B_ ⟨rfl, hB_⟩
 obtain rfl := hB_.symm
 rw [hv1]
 refine aa rfl (bN rfl) (aa rfl (ac rfl) ?_)
 refine bA rfl rfl rfl ?_ ?_
 intro g7_7
 refine al rfl rfl rfl rfl (al rfl rfl rfl rfl (al rfl rfl rfl rfl (f6 rfl rfl rfl (f6 rfl rfl rfl (f6 rfl rfl rfl (f6 rfl rfl rfl (f6 rfl rfl rfl (al rfl rfl rfl rfl (aa rfl (aT rfl rfl) (ag (ab (bR rfl (ae (ah (aa rfl (ac rfl) (aa rfl (ai rfl) (aa rfl (ai rfl) (ag (ab (av (aD (bj (aD ?_)))))))))))))))))))))))
 refine aD (bj (aD (au (.inl rfl) (.cons (ak rfl) (.cons (ak rfl) .nil)) ?_)))
 rw [hbad (by rw [hW]; simp_all)]
 exact ⟨_, ⟨_, rfl, rfl⟩, inferInstance⟩
 intro g7_7
 refine aa rfl (ao rfl eB rfl az rfl (by first | exact Nat.zero_add _ | rfl)) ?_
 refine ar rfl rfl (aa rfl (ap aM rfl (aA rfl)) ?_)
 refine ar rfl rfl (aa rfl (co rfl rfl) (ar rfl rfl (aa rfl (ac rfl) ?_)))
 refine cG rfl rfl rfl ?_ ?_
 intro g7_11
 refine aa rfl (cu cm bS rfl rfl) ?_
 refine ar rfl rfl ?_
 refine aa rfl (ao rfl eB rfl az rfl (by first | exact Nat.zero_add _ | rfl)) ?_
 refine ar rfl rfl (aa rfl (ap aM rfl (aA rfl)) ?_)
 refine ar rfl rfl (am rfl (aS oG rfl (mi c q)) ?_)
 rintro _ B_ ⟨rfl, hB_⟩
 obtain rfl := hB_.symm
 rw [hw1]
 refine ar rfl rfl (aa rfl (bN rfl) (ar rfl rfl (aa rfl (aT rfl rfl) (aa rfl (aJ rfl rfl) (ag (ab ?_))))))
 refine ax rfl ?_ ?_
 intro c7
 refine ae (ah (aa rfl (ac rfl) (aa rfl (ai rfl) (aa rfl (ai rfl) (ag (ab (av (aD (bj (aD (aD (bj (aD (au (.inl rfl) (.cons (ak rfl) (.cons (ak rfl) .nil)) ?_))))))))))))))
 rw [hbad (by rw [hW]; simp_all)]
 exact ⟨_, ⟨_, rfl, rfl⟩, inferInstance⟩
 intro c7
 refine aB (ab ?_)
 refine gM (fun _ : Unit => v1 = true ∧ (q = -1 ∨ (w1 = true ∧ p = f0 c q))) (fun _ => [(1, .pointer (some ⟨b1, 0, none⟩)), (4, .int .i64 i), (5, .pointer (some ⟨bx, 0, none⟩))]) (fun _ => pt bx (aw (dS (p, q)) 146) :: pt b1 (d7 c) :: R) ?_ ?_
 skip
 refine ae ?_
 have hv2 : v1 = true := by simp_all
 have hq2 : q = -1 ∨ w1 = true := by
  by_cases z : q = -1
  exact .inl z
  right; simp_all
 refine cY [(b1, 0, cj c), (bx, 0, dS (p, q)), (g1, o1 + j1 * 3, vs1)] 15 cV rfl (aV (aV (df (hcv1 _) aK))) (fun hS => ?_)
 refine aj 0 rfl rfl (by kernel_rfl) (by kernel_rfl) (by kernel_rfl) rfl hS (ao rfl eB rfl az rfl (by first | exact Nat.zero_add _ | rfl)) ?_
 refine aj 1 rfl rfl (by kernel_rfl) (by kernel_rfl) (by kernel_rfl) rfl hS (ap aM rfl (by first | exact aG (k := 0) rfl rfl | exact aG (k := 1) rfl rfl | exact aG (k := 2) rfl rfl | exact aG (k := 3) rfl rfl)) ?_
 refine aj 2 rfl rfl (by kernel_rfl) (by kernel_rfl) (by kernel_rfl) rfl hS (cF rfl rfl) ?_
 refine aj 3 rfl rfl (by kernel_rfl) (by kernel_rfl) (by kernel_rfl) rfl hS (ac rfl) ?_
 refine f7 (t := 45) rfl ?_ ?_
 intro g9_4
 obtain rfl : w1 = true := by
  rcases hq2 with z | z
  exact absurd z (by omega)
  exact z
 obtain ⟨ha1, hq1, hj1, u1, rfl, hl1⟩ := hr1 rfl
 refine aj 4 rfl rfl (by kernel_rfl) (by kernel_rfl) (by kernel_rfl) rfl hS (ao rfl eB rfl az rfl (by first | exact Nat.zero_add _ | rfl)) ?_
 refine aj 5 rfl rfl (by kernel_rfl) (by kernel_rfl) (by kernel_rfl) rfl hS (ap aM rfl (by first | exact aG (k := 0) rfl rfl | exact aG (k := 1) rfl rfl | exact aG (k := 2) rfl rfl | exact aG (k := 3) rfl rfl)) ?_
 refine aj 6 rfl rfl (by kernel_rfl) (by kernel_rfl) (by kernel_rfl) rfl hS (ao rfl bw rfl du rfl (by first | exact Nat.zero_add _ | rfl)) ?_
 refine aj 7 rfl rfl (by kernel_rfl) (by kernel_rfl) (by kernel_rfl) rfl hS (ap dy rfl (by first | exact aG (k := 0) rfl rfl | exact aG (k := 1) rfl rfl | exact aG (k := 2) rfl rfl | exact aG (k := 3) rfl rfl)) ?_
 refine aj 8 rfl rfl (by kernel_rfl) (by kernel_rfl) (by kernel_rfl) rfl hS (ao rfl eB rfl az rfl (by first | exact Nat.zero_add _ | rfl)) ?_
 refine aj 9 rfl rfl (by kernel_rfl) (by kernel_rfl) (by kernel_rfl) rfl hS (ap aM rfl (by first | exact aG (k := 0) rfl rfl | exact aG (k := 1) rfl rfl | exact aG (k := 2) rfl rfl | exact aG (k := 3) rfl rfl)) ?_
 refine aj 10 rfl rfl (by kernel_rfl) (by kernel_rfl) (by kernel_rfl) rfl hS (ec dj ej rfl ha1 rfl hq1 hj1 (by first | exact Nat.zero_add _ | rfl)) ?_
 refine aj 11 rfl rfl (by kernel_rfl) (by kernel_rfl) (by kernel_rfl) rfl hS (ao rfl dO rfl az rfl (by first | exact Nat.zero_add _ | rfl)) ?_
 refine aj 12 rfl rfl (by kernel_rfl) (by kernel_rfl) (by kernel_rfl) rfl hS (ap aM rfl (eW (k := 2) (j := 0) rfl rfl)) ?_
 refine aj 13 rfl rfl (by kernel_rfl) (by kernel_rfl) (by kernel_rfl) rfl hS (co rfl rfl) ?_
 refine aj 14 rfl rfl (by kernel_rfl) (by kernel_rfl) (by kernel_rfl) rfl hS (aT rfl rfl) ?_
 refine cg (by kernel_rfl) ?_; clear hS
 refine ab ?_
 refine ax rfl ?_ ?_
 intro c9
 refine ae (ah (aa rfl (ac rfl) (aa rfl (ai rfl) (aa rfl (ai rfl) (ag (ab (av (aD (au (.inl rfl) (.cons (ak rfl) (.cons (ak rfl) .nil)) ?_)))))))))
 rw [hbad (by rw [hW, hv2, hl1, decide_eq_true (show p ≠ u1.1 by omega)]; simp_all)]
 exact ⟨_, ⟨_, rfl, rfl⟩, inferInstance⟩
 intro c9
 refine aB (ab ?_)
 refine dK () ?_ ?_ ?_
 refine ⟨hv2, ?_⟩
 first
   | (left; rcases hq2 with z | z
      · exact z
      · exact absurd (hlt z) (by omega))
   | exact .inr ⟨rfl, by rw [hl1]; omega⟩
 · repeat (first | exact aX | refine aU rfl ?_)
 exact inferInstance
 intro g9_4
 refine bp 4 rfl rfl (by kernel_rfl) (by kernel_rfl) (by kernel_rfl) rfl hS ?_
 refine bp 5 rfl rfl (by kernel_rfl) (by kernel_rfl) (by kernel_rfl) rfl hS ?_
 refine bp 6 rfl rfl (by kernel_rfl) (by kernel_rfl) (by kernel_rfl) rfl hS ?_
 refine bp 7 rfl rfl (by kernel_rfl) (by kernel_rfl) (by kernel_rfl) rfl hS ?_
 refine bp 8 rfl rfl (by kernel_rfl) (by kernel_rfl) (by kernel_rfl) rfl hS ?_
 refine bp 9 rfl rfl (by kernel_rfl) (by kernel_rfl) (by kernel_rfl) rfl hS ?_
 refine bp 10 rfl rfl (by kernel_rfl) (by kernel_rfl) (by kernel_rfl) rfl hS ?_
 refine bp 11 rfl rfl (by kernel_rfl) (by kernel_rfl) (by kernel_rfl) rfl hS ?_
 refine bp 12 rfl rfl (by kernel_rfl) (by kernel_rfl) (by kernel_rfl) rfl hS ?_
 refine bp 13 rfl rfl (by kernel_rfl) (by kernel_rfl) (by kernel_rfl) rfl hS ?_
 refine aj 14 rfl rfl (by kernel_rfl) (by kernel_rfl) (by kernel_rfl) rfl hS (aJ rfl rfl) ?_
 refine cg (by kernel_rfl) ?_; clear hS
 refine ab (eL rfl (aB (ab ?_)))
 refine dK () ?_ ?_ ?_
 refine ⟨hv2, ?_⟩
 first
   | (left; rcases hq2 with z | z
      · exact z
      · exact absurd (hlt z) (by omega))
   | exact .inr ⟨rfl, by rw [hl1]; omega⟩
 · repeat (first | exact aX | refine aU rfl ?_)
 exact inferInstance
 intro _ ⟨hv2, hcut⟩
 rw [hv2, show (!true) = false from rfl, Bool.false_or] at hW
 refine ae (ah (aa rfl (ai rfl) (ag (ab (b0 ?_)))))
 refine cC (fun k : Nat => k ≤ i ∧ ∀ j, j < k → 0 ≤ q → (c.pl.getD j (0, 0)).2 ≠ q) (fun k => [(1, .pointer (some ⟨b1, 0, none⟩)), (4, .int .i64 i), (5, .pointer (some ⟨bx, 0, none⟩)), (6, .int .i64 k)]) (fun _ => pt bx (aw (dS (p, q)) 146) :: pt b1 (d7 c) :: R) (fun k => i - k) 0 ?_ ?_ ?_ ?_
 exact ⟨Nat.zero_le _, fun j hj => absurd hj (Nat.not_lt_zero _)⟩
 · repeat (first | exact aX | refine aU rfl ?_)
 exact inferInstance
 intro k ⟨hk, hK⟩
 refine ae (ae (ah (aa rfl (ac rfl) (aa rfl (ac rfl) (aa rfl (aY rfl rfl) (ag (ab ?_)))))))
 refine ax rfl ?_ ?_
 intro c12
 refine aB (ab (ae (b0 (ae ?_))))
 have hk1 : k < c.pl.length := by omega
 obtain ⟨g2, o2, hga2, hc2⟩ := (h.p []).at_ hk1
 obtain ⟨⟨p2, q2⟩, hx2⟩ : ∃ x, c.pl[k] = x := ⟨_, rfl⟩
 have hgd2 : c.pl.getD k (0, 0) = (p2, q2) := by simp [List.getD, hk1, hx2]
 have htk : q2 = q → gG c q i = true := fun z => uy (j := k) (by omega) hk1 (by rw [hx2]; exact z)
 rw [hx2] at hc2
 refine cY [(b1, 0, cj c), (bx, 0, dS (p, q)), (g2, o2 + k * 2, dS (p2, q2))] 14 cV rfl (aV (aV (df hc2.weak aK))) (fun hS => ?_)
 refine aj 0 rfl rfl (by kernel_rfl) (by kernel_rfl) (by kernel_rfl) rfl hS (ao rfl eB rfl az rfl (by first | exact Nat.zero_add _ | rfl)) ?_
 refine aj 1 rfl rfl (by kernel_rfl) (by kernel_rfl) (by kernel_rfl) rfl hS (ap aM rfl (by first | exact aG (k := 0) rfl rfl | exact aG (k := 1) rfl rfl | exact aG (k := 2) rfl rfl | exact aG (k := 3) rfl rfl | exact aG (k := 4) rfl rfl)) ?_
 refine aj 2 rfl rfl (by kernel_rfl) (by kernel_rfl) (by kernel_rfl) rfl hS (cF rfl rfl) ?_
 refine aj 3 rfl rfl (by kernel_rfl) (by kernel_rfl) (by kernel_rfl) rfl hS (ac rfl) ?_
 refine f7 (t := 66) rfl ?_ ?_
 intro g14_4
 refine aj 4 rfl rfl (by kernel_rfl) (by kernel_rfl) (by kernel_rfl) rfl hS (ao rfl bw rfl fh rfl (by first | exact Nat.zero_add _ | rfl)) ?_
 refine aj 5 rfl rfl (by kernel_rfl) (by kernel_rfl) (by kernel_rfl) rfl hS (ap ig rfl (by first | exact aG (k := 0) rfl rfl | exact aG (k := 1) rfl rfl | exact aG (k := 2) rfl rfl | exact aG (k := 3) rfl rfl | exact aG (k := 4) rfl rfl)) ?_
 refine aj 6 rfl rfl (by kernel_rfl) (by kernel_rfl) (by kernel_rfl) rfl hS (ac rfl) ?_
 refine aj 7 rfl rfl (by kernel_rfl) (by kernel_rfl) (by kernel_rfl) rfl hS (ec eT eN rfl hga2 rfl rfl hk1 (by first | exact Nat.zero_add _ | rfl)) ?_
 refine aj 8 rfl rfl (by kernel_rfl) (by kernel_rfl) (by kernel_rfl) rfl hS (ao rfl eB rfl az rfl (by first | exact Nat.zero_add _ | rfl)) ?_
 refine aj 9 rfl rfl (by kernel_rfl) (by kernel_rfl) (by kernel_rfl) rfl hS (ap aM rfl (eW (k := 2) (j := 1) rfl rfl)) ?_
 refine aj 10 rfl rfl (by kernel_rfl) (by kernel_rfl) (by kernel_rfl) rfl hS (ao rfl eB rfl az rfl (by first | exact Nat.zero_add _ | rfl)) ?_
 refine aj 11 rfl rfl (by kernel_rfl) (by kernel_rfl) (by kernel_rfl) rfl hS (ap aM rfl (by first | exact aG (k := 0) rfl rfl | exact aG (k := 1) rfl rfl | exact aG (k := 2) rfl rfl | exact aG (k := 3) rfl rfl | exact aG (k := 4) rfl rfl)) ?_
 refine aj 12 rfl rfl (by kernel_rfl) (by kernel_rfl) (by kernel_rfl) rfl hS (cz rfl rfl) ?_
 refine aj 13 rfl rfl (by kernel_rfl) (by kernel_rfl) (by kernel_rfl) rfl hS (aT rfl rfl) ?_
 refine cg (by kernel_rfl) ?_; clear hS
 refine ab ?_
 refine ax rfl ?_ ?_
 intro c14
 refine ae (ah (aa rfl (ac rfl) (aa rfl (ai rfl) (aa rfl (ai rfl) (ag (ab (av (bj (aD (aD (bj (bj (aD (aD (bj (aD (au (.inl rfl) (.cons (ak rfl) (.cons (ak rfl) .nil)) ?_)))))))))))))))))
 have hz : w1 = true := by
  rcases hcut with z | z
  omega
  exact z.1
 rw [hbad (by rw [hW, htk (by omega), decide_eq_true (by omega)]; simp)]
 exact ⟨_, ⟨_, rfl, rfl⟩, inferInstance⟩
 intro c14
 refine aB (bF (ab (ah (aa rfl (ac rfl) ?_))))
 refine aa rfl (bC rfl rfl (by first | exact aW (by omega) | rfl)) ?_
 refine aa rfl (ai rfl) (ag (ab ?_))
 refine cp (k + 1) ?_ ?_ ?_ ?_
 refine ⟨by omega, fun j hj hq0 => ?_⟩
 rcases Nat.lt_or_ge j k with z | z
 exact hK j z hq0
 rw [show j = k by omega, hgd2]
 dsimp only
 omega
 omega
 · repeat (first | exact aX | refine aU rfl ?_)
 exact inferInstance
 intro g14_4
 refine bp 4 rfl rfl (by kernel_rfl) (by kernel_rfl) (by kernel_rfl) rfl hS ?_
 refine bp 5 rfl rfl (by kernel_rfl) (by kernel_rfl) (by kernel_rfl) rfl hS ?_
 refine bp 6 rfl rfl (by kernel_rfl) (by kernel_rfl) (by kernel_rfl) rfl hS ?_
 refine bp 7 rfl rfl (by kernel_rfl) (by kernel_rfl) (by kernel_rfl) rfl hS ?_
 refine bp 8 rfl rfl (by kernel_rfl) (by kernel_rfl) (by kernel_rfl) rfl hS ?_
 refine bp 9 rfl rfl (by kernel_rfl) (by kernel_rfl) (by kernel_rfl) rfl hS ?_
 refine bp 10 rfl rfl (by kernel_rfl) (by kernel_rfl) (by kernel_rfl) rfl hS ?_
 refine bp 11 rfl rfl (by kernel_rfl) (by kernel_rfl) (by kernel_rfl) rfl hS ?_
 refine bp 12 rfl rfl (by kernel_rfl) (by kernel_rfl) (by kernel_rfl) rfl hS ?_
 refine aj 13 rfl rfl (by kernel_rfl) (by kernel_rfl) (by kernel_rfl) rfl hS (aJ rfl rfl) ?_
 refine cg (by kernel_rfl) ?_; clear hS
 refine ab (eL rfl (aB (bF (ab (ah (aa rfl (ac rfl) ?_))))))
 refine aa rfl (bC rfl rfl (by first | exact aW (by omega) | rfl)) ?_
 refine aa rfl (ai rfl) (ag (ab ?_))
 refine cp (k + 1) ?_ ?_ ?_ ?_
 refine ⟨by omega, fun j hj hq0 => ?_⟩
 rcases Nat.lt_or_ge j k with z | z
 exact hK j z hq0
 rw [show j = k by omega, hgd2]
 dsimp only
 omega
 omega
 · repeat (first | exact aX | refine aU rfl ?_)
 exact inferInstance
 intro c12
 refine bX (bi (bi (bZ (bF (ab (ah (aa rfl (ac rfl) ?_)))))))
 refine aa rfl (bC rfl rfl (by first | exact aW (by omega) | rfl)) ?_
 refine aa rfl (ai rfl) (ag (ab ?_))
 refine cp (i + 1) ?_ ?_ ?_ ?_
 refine ⟨by omega, hgood ?_⟩
 rw [hW]
 rcases hcut with z | ⟨z1, z2⟩
 rw [z]; rfl
 rw [z1, uz (fun j hj => hK j (by omega) (hlt z1)), decide_eq_false (by omega : ¬ p ≠ f0 c q)]
 simp
 omega
 · repeat (first | exact aX | refine aU rfl ?_)
 exact inferInstance
 intro g7_11
 refine al rfl rfl rfl rfl (al rfl rfl rfl rfl (al rfl rfl rfl rfl (al rfl rfl rfl rfl (ar rfl rfl (aa rfl (aJ rfl rfl) (aa rfl (aJ rfl rfl) (ag (ab (eL rfl (aB (ab ?_)))))))))))
 refine gM (fun _ : Unit => v1 = true ∧ (q = -1 ∨ (w1 = true ∧ p = f0 c q))) (fun _ => [(1, .pointer (some ⟨b1, 0, none⟩)), (4, .int .i64 i), (5, .pointer (some ⟨bx, 0, none⟩))]) (fun _ => pt bx (aw (dS (p, q)) 146) :: pt b1 (d7 c) :: R) ?_ ?_
 skip
 refine ae ?_
 have hv2 : v1 = true := by simp_all
 have hq2 : q = -1 ∨ w1 = true := by
  by_cases z : q = -1
  exact .inl z
  right; simp_all
 refine cY [(b1, 0, cj c), (bx, 0, dS (p, q)), (g1, o1 + j1 * 3, vs1)] 15 cV rfl (aV (aV (df (hcv1 _) aK))) (fun hS => ?_)
 refine aj 0 rfl rfl (by kernel_rfl) (by kernel_rfl) (by kernel_rfl) rfl hS (ao rfl eB rfl az rfl (by first | exact Nat.zero_add _ | rfl)) ?_
 refine aj 1 rfl rfl (by kernel_rfl) (by kernel_rfl) (by kernel_rfl) rfl hS (ap aM rfl (by first | exact aG (k := 0) rfl rfl | exact aG (k := 1) rfl rfl | exact aG (k := 2) rfl rfl | exact aG (k := 3) rfl rfl)) ?_
 refine aj 2 rfl rfl (by kernel_rfl) (by kernel_rfl) (by kernel_rfl) rfl hS (cF rfl rfl) ?_
 refine aj 3 rfl rfl (by kernel_rfl) (by kernel_rfl) (by kernel_rfl) rfl hS (ac rfl) ?_
 refine f7 (t := 45) rfl ?_ ?_
 intro g9_4
 obtain rfl : w1 = true := by
  rcases hq2 with z | z
  exact absurd z (by omega)
  exact z
 obtain ⟨ha1, hq1, hj1, u1, rfl, hl1⟩ := hr1 rfl
 refine aj 4 rfl rfl (by kernel_rfl) (by kernel_rfl) (by kernel_rfl) rfl hS (ao rfl eB rfl az rfl (by first | exact Nat.zero_add _ | rfl)) ?_
 refine aj 5 rfl rfl (by kernel_rfl) (by kernel_rfl) (by kernel_rfl) rfl hS (ap aM rfl (by first | exact aG (k := 0) rfl rfl | exact aG (k := 1) rfl rfl | exact aG (k := 2) rfl rfl | exact aG (k := 3) rfl rfl)) ?_
 refine aj 6 rfl rfl (by kernel_rfl) (by kernel_rfl) (by kernel_rfl) rfl hS (ao rfl bw rfl du rfl (by first | exact Nat.zero_add _ | rfl)) ?_
 refine aj 7 rfl rfl (by kernel_rfl) (by kernel_rfl) (by kernel_rfl) rfl hS (ap dy rfl (by first | exact aG (k := 0) rfl rfl | exact aG (k := 1) rfl rfl | exact aG (k := 2) rfl rfl | exact aG (k := 3) rfl rfl)) ?_
 refine aj 8 rfl rfl (by kernel_rfl) (by kernel_rfl) (by kernel_rfl) rfl hS (ao rfl eB rfl az rfl (by first | exact Nat.zero_add _ | rfl)) ?_
 refine aj 9 rfl rfl (by kernel_rfl) (by kernel_rfl) (by kernel_rfl) rfl hS (ap aM rfl (by first | exact aG (k := 0) rfl rfl | exact aG (k := 1) rfl rfl | exact aG (k := 2) rfl rfl | exact aG (k := 3) rfl rfl)) ?_
 refine aj 10 rfl rfl (by kernel_rfl) (by kernel_rfl) (by kernel_rfl) rfl hS (ec dj ej rfl ha1 rfl hq1 hj1 (by first | exact Nat.zero_add _ | rfl)) ?_
 refine aj 11 rfl rfl (by kernel_rfl) (by kernel_rfl) (by kernel_rfl) rfl hS (ao rfl dO rfl az rfl (by first | exact Nat.zero_add _ | rfl)) ?_
 refine aj 12 rfl rfl (by kernel_rfl) (by kernel_rfl) (by kernel_rfl) rfl hS (ap aM rfl (eW (k := 2) (j := 0) rfl rfl)) ?_
 refine aj 13 rfl rfl (by kernel_rfl) (by kernel_rfl) (by kernel_rfl) rfl hS (co rfl rfl) ?_
 refine aj 14 rfl rfl (by kernel_rfl) (by kernel_rfl) (by kernel_rfl) rfl hS (aT rfl rfl) ?_
 refine cg (by kernel_rfl) ?_; clear hS
 refine ab ?_
 refine ax rfl ?_ ?_
 intro c9
 refine ae (ah (aa rfl (ac rfl) (aa rfl (ai rfl) (aa rfl (ai rfl) (ag (ab (av (aD (au (.inl rfl) (.cons (ak rfl) (.cons (ak rfl) .nil)) ?_)))))))))
 rw [hbad (by rw [hW, hv2, hl1, decide_eq_true (show p ≠ u1.1 by omega)]; simp_all)]
 exact ⟨_, ⟨_, rfl, rfl⟩, inferInstance⟩
 intro c9
 refine aB (ab ?_)
 refine dK () ?_ ?_ ?_
 refine ⟨hv2, ?_⟩
 first
   | (left; rcases hq2 with z | z
      · exact z
      · exact absurd (hlt z) (by omega))
   | exact .inr ⟨rfl, by rw [hl1]; omega⟩
 · repeat (first | exact aX | refine aU rfl ?_)
 exact inferInstance
 intro g9_4
 refine bp 4 rfl rfl (by kernel_rfl) (by kernel_rfl) (by kernel_rfl) rfl hS ?_
 refine bp 5 rfl rfl (by kernel_rfl) (by kernel_rfl) (by kernel_rfl) rfl hS ?_
 refine bp 6 rfl rfl (by kernel_rfl) (by kernel_rfl) (by kernel_rfl) rfl hS ?_
 refine bp 7 rfl rfl (by kernel_rfl) (by kernel_rfl) (by kernel_rfl) rfl hS ?_
 refine bp 8 rfl rfl (by kernel_rfl) (by kernel_rfl) (by kernel_rfl) rfl hS ?_
 refine bp 9 rfl rfl (by kernel_rfl) (by kernel_rfl) (by kernel_rfl) rfl hS ?_
 refine bp 10 rfl rfl (by kernel_rfl) (by kernel_rfl) (by kernel_rfl) rfl hS ?_
 refine bp 11 rfl rfl (by kernel_rfl) (by kernel_rfl) (by kernel_rfl) rfl hS ?_
 refine bp 12 rfl rfl (by kernel_rfl) (by kernel_rfl) (by kernel_rfl) rfl hS ?_
 refine bp 13 rfl rfl (by kernel_rfl) (by kernel_rfl) (by kernel_rfl) rfl hS ?_
 refine aj 14 rfl rfl (by kernel_rfl) (by kernel_rfl) (by kernel_rfl) rfl hS (aJ rfl rfl) ?_
 refine cg (by kernel_rfl) ?_; clear hS
 refine ab (eL rfl (aB (ab ?_)))
 refine dK () ?_ ?_ ?_
 refine ⟨hv2, ?_⟩
 first
   | (left; rcases hq2 with z | z
      · exact z
      · exact absurd (hlt z) (by omega))
   | exact .inr ⟨rfl, by rw [hl1]; omega⟩
 · repeat (first | exact aX | refine aU rfl ?_)
 exact inferInstance
 intro _ ⟨hv2, hcut⟩
 rw [hv2, show (!true) = false from rfl, Bool.false_or] at hW
 refine ae (ah (aa rfl (ai rfl) (ag (ab (b0 ?_)))))
 refine cC (fun k : Nat => k ≤ i ∧ ∀ j, j < k → 0 ≤ q → (c.pl.getD j (0, 0)).2 ≠ q) (fun k => [(1, .pointer (some ⟨b1, 0, none⟩)), (4, .int .i64 i), (5, .pointer (some ⟨bx, 0, none⟩)), (6, .int .i64 k)]) (fun _ => pt bx (aw (dS (p, q)) 146) :: pt b1 (d7 c) :: R) (fun k => i - k) 0 ?_ ?_ ?_ ?_
 exact ⟨Nat.zero_le _, fun j hj => absurd hj (Nat.not_lt_zero _)⟩
 · repeat (first | exact aX | refine aU rfl ?_)
 exact inferInstance
 intro k ⟨hk, hK⟩
 refine ae (ae (ah (aa rfl (ac rfl) (aa rfl (ac rfl) (aa rfl (aY rfl rfl) (ag (ab ?_)))))))
 refine ax rfl ?_ ?_
 intro c12
 refine aB (ab (ae (b0 (ae ?_))))
 have hk1 : k < c.pl.length := by omega
 obtain ⟨g2, o2, hga2, hc2⟩ := (h.p []).at_ hk1
 obtain ⟨⟨p2, q2⟩, hx2⟩ : ∃ x, c.pl[k] = x := ⟨_, rfl⟩
 have hgd2 : c.pl.getD k (0, 0) = (p2, q2) := by simp [List.getD, hk1, hx2]
 have htk : q2 = q → gG c q i = true := fun z => uy (j := k) (by omega) hk1 (by rw [hx2]; exact z)
 rw [hx2] at hc2
 refine cY [(b1, 0, cj c), (bx, 0, dS (p, q)), (g2, o2 + k * 2, dS (p2, q2))] 14 cV rfl (aV (aV (df hc2.weak aK))) (fun hS => ?_)
 refine aj 0 rfl rfl (by kernel_rfl) (by kernel_rfl) (by kernel_rfl) rfl hS (ao rfl eB rfl az rfl (by first | exact Nat.zero_add _ | rfl)) ?_
 refine aj 1 rfl rfl (by kernel_rfl) (by kernel_rfl) (by kernel_rfl) rfl hS (ap aM rfl (by first | exact aG (k := 0) rfl rfl | exact aG (k := 1) rfl rfl | exact aG (k := 2) rfl rfl | exact aG (k := 3) rfl rfl | exact aG (k := 4) rfl rfl)) ?_
 refine aj 2 rfl rfl (by kernel_rfl) (by kernel_rfl) (by kernel_rfl) rfl hS (cF rfl rfl) ?_
 refine aj 3 rfl rfl (by kernel_rfl) (by kernel_rfl) (by kernel_rfl) rfl hS (ac rfl) ?_
 refine f7 (t := 66) rfl ?_ ?_
 intro g14_4
 refine aj 4 rfl rfl (by kernel_rfl) (by kernel_rfl) (by kernel_rfl) rfl hS (ao rfl bw rfl fh rfl (by first | exact Nat.zero_add _ | rfl)) ?_
 refine aj 5 rfl rfl (by kernel_rfl) (by kernel_rfl) (by kernel_rfl) rfl hS (ap ig rfl (by first | exact aG (k := 0) rfl rfl | exact aG (k := 1) rfl rfl | exact aG (k := 2) rfl rfl | exact aG (k := 3) rfl rfl | exact aG (k := 4) rfl rfl)) ?_
 refine aj 6 rfl rfl (by kernel_rfl) (by kernel_rfl) (by kernel_rfl) rfl hS (ac rfl) ?_
 refine aj 7 rfl rfl (by kernel_rfl) (by kernel_rfl) (by kernel_rfl) rfl hS (ec eT eN rfl hga2 rfl rfl hk1 (by first | exact Nat.zero_add _ | rfl)) ?_
 refine aj 8 rfl rfl (by kernel_rfl) (by kernel_rfl) (by kernel_rfl) rfl hS (ao rfl eB rfl az rfl (by first | exact Nat.zero_add _ | rfl)) ?_
 refine aj 9 rfl rfl (by kernel_rfl) (by kernel_rfl) (by kernel_rfl) rfl hS (ap aM rfl (eW (k := 2) (j := 1) rfl rfl)) ?_
 refine aj 10 rfl rfl (by kernel_rfl) (by kernel_rfl) (by kernel_rfl) rfl hS (ao rfl eB rfl az rfl (by first | exact Nat.zero_add _ | rfl)) ?_
 refine aj 11 rfl rfl (by kernel_rfl) (by kernel_rfl) (by kernel_rfl) rfl hS (ap aM rfl (by first | exact aG (k := 0) rfl rfl | exact aG (k := 1) rfl rfl | exact aG (k := 2) rfl rfl | exact aG (k := 3) rfl rfl | exact aG (k := 4) rfl rfl)) ?_
 refine aj 12 rfl rfl (by kernel_rfl) (by kernel_rfl) (by kernel_rfl) rfl hS (cz rfl rfl) ?_
 refine aj 13 rfl rfl (by kernel_rfl) (by kernel_rfl) (by kernel_rfl) rfl hS (aT rfl rfl) ?_
 refine cg (by kernel_rfl) ?_; clear hS
 refine ab ?_
 refine ax rfl ?_ ?_
 intro c14
 refine ae (ah (aa rfl (ac rfl) (aa rfl (ai rfl) (aa rfl (ai rfl) (ag (ab (av (bj (aD (aD (bj (bj (aD (aD (bj (aD (au (.inl rfl) (.cons (ak rfl) (.cons (ak rfl) .nil)) ?_)))))))))))))))))
 have hz : w1 = true := by
  rcases hcut with z | z
  omega
  exact z.1
 rw [hbad (by rw [hW, htk (by omega), decide_eq_true (by omega)]; simp)]
 exact ⟨_, ⟨_, rfl, rfl⟩, inferInstance⟩
 intro c14
 refine aB (bF (ab (ah (aa rfl (ac rfl) ?_))))
 refine aa rfl (bC rfl rfl (by first | exact aW (by omega) | rfl)) ?_
 refine aa rfl (ai rfl) (ag (ab ?_))
 refine cp (k + 1) ?_ ?_ ?_ ?_
 refine ⟨by omega, fun j hj hq0 => ?_⟩
 rcases Nat.lt_or_ge j k with z | z
 exact hK j z hq0
 rw [show j = k by omega, hgd2]
 dsimp only
 omega
 omega
 · repeat (first | exact aX | refine aU rfl ?_)
 exact inferInstance
 intro g14_4
 refine bp 4 rfl rfl (by kernel_rfl) (by kernel_rfl) (by kernel_rfl) rfl hS ?_
 refine bp 5 rfl rfl (by kernel_rfl) (by kernel_rfl) (by kernel_rfl) rfl hS ?_
 refine bp 6 rfl rfl (by kernel_rfl) (by kernel_rfl) (by kernel_rfl) rfl hS ?_
 refine bp 7 rfl rfl (by kernel_rfl) (by kernel_rfl) (by kernel_rfl) rfl hS ?_
 refine bp 8 rfl rfl (by kernel_rfl) (by kernel_rfl) (by kernel_rfl) rfl hS ?_
 refine bp 9 rfl rfl (by kernel_rfl) (by kernel_rfl) (by kernel_rfl) rfl hS ?_
 refine bp 10 rfl rfl (by kernel_rfl) (by kernel_rfl) (by kernel_rfl) rfl hS ?_
 refine bp 11 rfl rfl (by kernel_rfl) (by kernel_rfl) (by kernel_rfl) rfl hS ?_
 refine bp 12 rfl rfl (by kernel_rfl) (by kernel_rfl) (by kernel_rfl) rfl hS ?_
 refine aj 13 rfl rfl (by kernel_rfl) (by kernel_rfl) (by kernel_rfl) rfl hS (aJ rfl rfl) ?_
 refine cg (by kernel_rfl) ?_; clear hS
 refine ab (eL rfl (aB (bF (ab (ah (aa rfl (ac rfl) ?_))))))
 refine aa rfl (bC rfl rfl (by first | exact aW (by omega) | rfl)) ?_
 refine aa rfl (ai rfl) (ag (ab ?_))
 refine cp (k + 1) ?_ ?_ ?_ ?_
 refine ⟨by omega, fun j hj hq0 => ?_⟩
 rcases Nat.lt_or_ge j k with z | z
 exact hK j z hq0
 rw [show j = k by omega, hgd2]
 dsimp only
 omega
 omega
 · repeat (first | exact aX | refine aU rfl ?_)
 exact inferInstance
 intro c12
 refine bX (bi (bi (bZ (bF (ab (ah (aa rfl (ac rfl) ?_)))))))
 refine aa rfl (bC rfl rfl (by first | exact aW (by omega) | rfl)) ?_
 refine aa rfl (ai rfl) (ag (ab ?_))
 refine cp (i + 1) ?_ ?_ ?_ ?_
 refine ⟨by omega, hgood ?_⟩
 rw [hW]
 rcases hcut with z | ⟨z1, z2⟩
 rw [z]; rfl
 rw [z1, uz (fun j hj => hK j (by omega) (hlt z1)), decide_eq_false (by omega : ¬ p ≠ f0 c q)]
 simp
 omega
 · repeat (first | exact aX | refine aU rfl ?_)
 exact inferInstance
 intro c4
 refine bX (bi (bi (bZ (ab (ae (ah (aa rfl (ai rfl) (aa rfl (ai rfl) (ag (ab (av (au (.inl rfl) (.cons (ak rfl) (.cons (ak rfl) .nil)) ?_))))))))))))
 obtain rfl : i = c.pl.length := by omega
 rw [gH, decide_eq_false (by omega), Bool.false_or, m8 hI]
 exact ⟨_, ⟨0, rfl, rfl⟩, inferInstance⟩
theorem nR {c : Cfg} (h : eR c = false) : c.nl.length ≤ 4 := by
 simp only [eR, Bool.or_eq_false_iff, decide_eq_false_iff_not] at h; omega
theorem uA (W0 : World) (R : List HP) (c : Cfg) (h : CfOk W0 c) :
    aC Tryz.prog W0 75 [.agg (cj c).toArray] R (fun v B => ∃ at_, v = .tuple #[.int .i64 (gn c), .int .i64 at_] ∧ B = R) := by
 obtain ⟨w1, hw1⟩ : ∃ w, dR c c.gate = w := ⟨_, rfl⟩
 have hG : fB c = if c.gate = -1 then decide (c.quota ≠ 0) else !(w1 && decide (0 ≤ c.quota ∧ c.quota ≤ 64)) := by rw [fB, hw1]
 obtain ⟨x0, hx0⟩ : ∃ x, gn c = x := ⟨_, rfl⟩
 obtain ⟨x1, hx1⟩ : ∃ x, eZ c = x := ⟨_, rfl⟩
 obtain ⟨x2, hx2⟩ : ∃ x, fD c = x := ⟨_, rfl⟩
 obtain ⟨x3, hx3⟩ : ∃ x, gH c = x := ⟨_, rfl⟩
 obtain ⟨x4, hx4⟩ : ∃ x, eR c = x := ⟨_, rfl⟩
 obtain ⟨x5, hx5⟩ : ∃ x, gF c = x := ⟨_, rfl⟩
 obtain ⟨x6, hx6⟩ : ∃ x, fB c = x := ⟨_, rfl⟩
 have hC : x0 = if c.cats < 0 ∨ 8 < c.cats then 12 else if x1 then 13 else if x2 then 14 else if x3 then 15 else if x4 then 16 else if x5 then 17 else if x6 then 18 else if 32 < dq c c.gl.length then 19 else 0 := by rw [← hx0, gn, hx1, hx2, hx3, hx4, hx5, hx6]
 rw [hx6] at hG
 rw [hx0]
 refine aF func75 ntmps75 rfl rfl ?_
 refine ae (ah (am rfl (bL rfl) ?_))
 rintro _ _ ⟨b1, rfl, rfl⟩
 refine aa rfl (ai rfl) (aa rfl (ai rfl) (ag (ab (ae (ae (ah ?_))))))
 refine aa rfl (ao rfl bw rfl az rfl (by first | exact Nat.zero_add _ | rfl)) ?_
 refine aa rfl (ap aM rfl (aA rfl)) ?_
 refine aa rfl (aY rfl rfl) (aa rfl (ac rfl) ?_)
 refine bA rfl rfl rfl ?_ ?_
 intro g1_4
 refine al rfl rfl rfl rfl (al rfl rfl rfl rfl (aa rfl (aT rfl rfl) (ag (ab (bR rfl (ae (ah (aa rfl (ai rfl) (aa rfl (ai rfl) (ag (ab (av (aD (au (.inl rfl) (.cons (ak rfl) (.cons (ak rfl) .nil)) ?_))))))))))))))
 rw [hC, if_pos (by omega)]
 exact ⟨_, ⟨0, rfl, rfl⟩, inferInstance⟩
 intro g1_4
 refine aa rfl (ao rfl bw rfl az rfl (by first | exact Nat.zero_add _ | rfl)) ?_
 refine ar rfl rfl (aa rfl (ap aM rfl (aA rfl)) ?_)
 refine ar rfl rfl (aa rfl (cd rfl rfl) (aa rfl (aJ rfl rfl) (ag (ab ?_))))
 refine ax rfl ?_ ?_
 intro c1
 refine ae (ah (aa rfl (ai rfl) (aa rfl (ai rfl) (ag (ab (av (aD (au (.inl rfl) (.cons (ak rfl) (.cons (ak rfl) .nil)) ?_))))))))
 rw [hC, if_pos (by omega)]
 exact ⟨_, ⟨0, rfl, rfl⟩, inferInstance⟩
 intro c1
 refine aB (ab (ae ?_))
 rw [if_neg (by omega)] at hC
 refine ah (aa rfl (cu cm bS rfl rfl) ?_)
 refine am rfl (aS call185 rfl (Az W0 _ c h)) ?_
 rintro _ B_ ⟨r1, rfl, hB_⟩
 obtain rfl := hB_.symm
 rw [hx1]
 refine aa rfl (ac rfl) (aa rfl (aZ rfl rfl) (aa rfl (aZ rfl rfl) (aa rfl (ai rfl) (aa rfl (ai rfl) (ag (ab (ae (ae (ah (aa rfl (ac rfl) (ag (ab ?_))))))))))))
 refine ax rfl ?_ ?_
 intro c4
 refine ae (ah (aa rfl (ac rfl) (aa rfl (ai rfl) (aa rfl (ai rfl) (ag (ab (av (aD (au (.inl rfl) (.cons (ak rfl) (.cons (ak rfl) .nil)) ?_)))))))))
 rw [hC, if_pos (by simpa using c4)]
 exact ⟨_, ⟨r1, rfl, rfl⟩, inferInstance⟩
 intro c4
 refine aB (ab (ae ?_))
 rw [if_neg (by simpa using c4)] at hC
 refine ah (aa rfl (cu cm bS rfl rfl) ?_)
 refine am rfl (aS call186 rfl (AA W0 _ c h)) ?_
 rintro _ B_ ⟨r2, rfl, hB_⟩
 obtain rfl := hB_.symm
 rw [hx2]
 refine aa rfl (ac rfl) (aa rfl (aZ rfl rfl) (aa rfl (aZ rfl rfl) (aa rfl (ai rfl) (aa rfl (ai rfl) (ag (ab (ae (ae (ah (aa rfl (ac rfl) (ag (ab ?_))))))))))))
 refine ax rfl ?_ ?_
 intro c7
 refine ae (ah (aa rfl (ac rfl) (aa rfl (ai rfl) (aa rfl (ai rfl) (ag (ab (av (aD (au (.inl rfl) (.cons (ak rfl) (.cons (ak rfl) .nil)) ?_)))))))))
 rw [hC, if_pos (by simpa using c7)]
 exact ⟨_, ⟨r2, rfl, rfl⟩, inferInstance⟩
 intro c7
 refine aB (ab (ae ?_))
 rw [if_neg (by simpa using c7)] at hC
 refine ah (aa rfl (cu cm bS rfl rfl) ?_)
 refine am rfl (aS call187 rfl (AF W0 _ c h)) ?_
 rintro _ B_ ⟨r3, rfl, hB_⟩
 obtain rfl := hB_.symm
 rw [hx3]
 refine aa rfl (ac rfl) (aa rfl (aZ rfl rfl) (aa rfl (aZ rfl rfl) (aa rfl (ai rfl) (aa rfl (ai rfl) (ag (ab (ae (ae (ah (aa rfl (ac rfl) (ag (ab ?_))))))))))))
 refine ax rfl ?_ ?_
 intro c10
 refine ae (ah (aa rfl (ac rfl) (aa rfl (ai rfl) (aa rfl (ai rfl) (ag (ab (av (aD (au (.inl rfl) (.cons (ak rfl) (.cons (ak rfl) .nil)) ?_)))))))))
 rw [hC, if_pos (by simpa using c10)]
 exact ⟨_, ⟨r3, rfl, rfl⟩, inferInstance⟩
 intro c10
 refine aB (ab (ae ?_))
 rw [if_neg (by simpa using c10)] at hC
 refine ah (aa rfl (cu cm bS rfl rfl) ?_)
 refine am rfl (aS call188 rfl (AE W0 _ c h)) ?_
 rintro _ B_ ⟨r4, rfl, hB_⟩
 obtain rfl := hB_.symm
 rw [hx4]
 refine aa rfl (ac rfl) (aa rfl (aZ rfl rfl) (aa rfl (aZ rfl rfl) (aa rfl (ai rfl) (aa rfl (ai rfl) (ag (ab (ae (ae (ah (aa rfl (ac rfl) (ag (ab ?_))))))))))))
 refine ax rfl ?_ ?_
 intro c13
 refine ae (ah (aa rfl (ac rfl) (aa rfl (ai rfl) (aa rfl (ai rfl) (ag (ab (av (aD (au (.inl rfl) (.cons (ak rfl) (.cons (ak rfl) .nil)) ?_)))))))))
 rw [hC, if_pos (by simpa using c13)]
 exact ⟨_, ⟨r4, rfl, rfl⟩, inferInstance⟩
 intro c13
 refine aB (ab (ae ?_))
 rw [if_neg (by simpa using c13)] at hC
 refine ah (aa rfl (cu cm bS rfl rfl) ?_)
 refine am rfl (aS call189 rfl (AB W0 _ c h)) ?_
 rintro _ B_ ⟨r5, rfl, hB_⟩
 obtain rfl := hB_.symm
 rw [hx5]
 refine aa rfl (ac rfl) (aa rfl (aZ rfl rfl) (aa rfl (aZ rfl rfl) (aa rfl (ai rfl) (aa rfl (ai rfl) (ag (ab (ae (ae (ah (aa rfl (ac rfl) (ag (ab ?_))))))))))))
 refine ax rfl ?_ ?_
 intro c16
 refine ae (ah (aa rfl (ac rfl) (aa rfl (ai rfl) (aa rfl (ai rfl) (ag (ab (av (aD (au (.inl rfl) (.cons (ak rfl) (.cons (ak rfl) .nil)) ?_)))))))))
 rw [hC, if_pos (by simpa using c16)]
 exact ⟨_, ⟨r5, rfl, rfl⟩, inferInstance⟩
 intro c16
 refine aB (ab (ae (ae ?_)))
 rw [if_neg (by simpa using c16)] at hC
 refine ah ?_
 refine aa rfl (ao rfl bw rfl az rfl (by first | exact Nat.zero_add _ | rfl)) ?_
 refine aa rfl (ap aM rfl (aA rfl)) ?_
 refine aa rfl (co rfl rfl) (aa rfl (ac rfl) ?_)
 refine cG rfl rfl rfl ?_ ?_
 intro g18_4
 refine aa rfl (cu cm bS rfl rfl) ?_
 refine ar rfl rfl ?_
 refine aa rfl (ao rfl bw rfl az rfl (by first | exact Nat.zero_add _ | rfl)) ?_
 refine ar rfl rfl (aa rfl (ap aM rfl (aA rfl)) ?_)
 refine ar rfl rfl (am rfl (aS oG rfl (mi c c.gate)) ?_)
 rintro _ B_ ⟨rfl, hB_⟩
 obtain rfl := hB_.symm
 rw [hw1]
 refine ar rfl rfl (aa rfl (bN rfl) (aa rfl (aT rfl rfl) (aa rfl (ac rfl) ?_)))
 refine bA rfl rfl rfl ?_ ?_
 intro g18_11
 refine al rfl rfl rfl rfl (al rfl rfl rfl rfl (aa rfl (aT rfl rfl) (aa rfl (ac rfl) (al rfl rfl rfl rfl (al rfl rfl rfl rfl (al rfl rfl rfl rfl (aa rfl (aT rfl rfl) (aa rfl (ac rfl) (al rfl rfl rfl rfl (al rfl rfl rfl rfl (al rfl rfl rfl rfl (al rfl rfl rfl rfl (f6 rfl rfl rfl (f6 rfl rfl rfl (f6 rfl rfl rfl (al rfl rfl rfl rfl (aa rfl (aT rfl rfl) (ag (ab (bR rfl (ae (ah (aa rfl (ai rfl) ?_)))))))))))))))))))))))
 refine aa rfl (ai rfl) (ag (ab (av (aD (au (.inl rfl) (.cons (ak rfl) (.cons (ak rfl) .nil)) ?_)))))
 have hz : x6 = true := by
  rw [hG]; split
  exact decide_eq_true (by first | omega | simp_all)
  first
    | (rw [decide_eq_false (by omega), Bool.and_false]; rfl)
    | simp_all
 rw [hC, hz]
 exact ⟨_, ⟨0, rfl, rfl⟩, inferInstance⟩
 intro g18_11
 refine aa rfl (ao rfl bw rfl az rfl (by first | exact Nat.zero_add _ | rfl)) ?_
 refine ar rfl rfl (aa rfl (ap aM rfl (aA rfl)) ?_)
 refine ar rfl rfl (aa rfl (aY rfl rfl) (aa rfl (aJ rfl rfl) (aa rfl (ac rfl) ?_)))
 refine bA rfl rfl rfl ?_ ?_
 intro g18_16
 refine al rfl rfl rfl rfl (al rfl rfl rfl rfl (aa rfl (aT rfl rfl) (aa rfl (ac rfl) (al rfl rfl rfl rfl (al rfl rfl rfl rfl (al rfl rfl rfl rfl (al rfl rfl rfl rfl (f6 rfl rfl rfl (f6 rfl rfl rfl (f6 rfl rfl rfl (al rfl rfl rfl rfl (aa rfl (aT rfl rfl) (ag (ab (bR rfl (ae (ah (aa rfl (ai rfl) (aa rfl (ai rfl) (ag (ab (av (aD ?_)))))))))))))))))))))))
 refine au (.inl rfl) (.cons (ak rfl) (.cons (ak rfl) .nil)) ?_
 have hz : x6 = true := by
  rw [hG]; split
  exact decide_eq_true (by first | omega | simp_all)
  first
    | (rw [decide_eq_false (by omega), Bool.and_false]; rfl)
    | simp_all
 rw [hC, hz]
 exact ⟨_, ⟨0, rfl, rfl⟩, inferInstance⟩
 intro g18_16
 refine aa rfl (ao rfl bw rfl az rfl (by first | exact Nat.zero_add _ | rfl)) ?_
 refine ar rfl rfl (aa rfl (ap aM rfl (aA rfl)) ?_)
 refine ar rfl rfl (aa rfl (cd rfl rfl) (aa rfl (aJ rfl rfl) (aa rfl (ac rfl) ?_)))
 refine bA rfl rfl rfl ?_ ?_
 intro g18_21
 refine al rfl rfl rfl rfl (al rfl rfl rfl rfl (al rfl rfl rfl rfl (f6 rfl rfl rfl (f6 rfl rfl rfl (f6 rfl rfl rfl (al rfl rfl rfl rfl (aa rfl (aT rfl rfl) (ag (ab (bR rfl (ae (ah (aa rfl (ai rfl) (aa rfl (ai rfl) (ag (ab (av (aD (au (.inl rfl) (.cons (ak rfl) (.cons (ak rfl) .nil)) ?_)))))))))))))))))))
 have hz : x6 = true := by
  rw [hG]; split
  exact decide_eq_true (by first | omega | simp_all)
  first
    | (rw [decide_eq_false (by omega), Bool.and_false]; rfl)
    | simp_all
 rw [hC, hz]
 exact ⟨_, ⟨0, rfl, rfl⟩, inferInstance⟩
 intro g18_21
 refine aa rfl (ao rfl bw rfl az rfl (by first | exact Nat.zero_add _ | rfl)) ?_
 refine ar rfl rfl (aa rfl (ap aM rfl (aA rfl)) ?_)
 refine ar rfl rfl (aa rfl (cz rfl rfl) (ar rfl rfl (aa rfl (ac rfl) ?_)))
 refine cG rfl rfl rfl ?_ ?_
 intro g18_25
 refine aa rfl (ao rfl bw rfl az rfl (by first | exact Nat.zero_add _ | rfl)) ?_
 refine ar rfl rfl (aa rfl (ap aM rfl (aA rfl)) ?_)
 refine ar rfl rfl (aa rfl (co rfl rfl) (ar rfl rfl (aa rfl (aT rfl rfl) (aa rfl (aJ rfl rfl) (ag (ab ?_))))))
 refine ax rfl ?_ ?_
 intro c18
 refine ae (ah (aa rfl (ai rfl) (aa rfl (ai rfl) (ag (ab (av (aD (au (.inl rfl) (.cons (ak rfl) (.cons (ak rfl) .nil)) ?_))))))))
 have hz : x6 = true := by
  rw [hG]; split
  exact decide_eq_true (by first | omega | simp_all)
  first
    | (rw [decide_eq_false (by omega), Bool.and_false]; rfl)
    | simp_all
 rw [hC, hz]
 exact ⟨_, ⟨0, rfl, rfl⟩, inferInstance⟩
 intro c18
 refine aB (ab (ae (ae ?_)))
 have hz : x6 = false := by
  rw [hG]; split
  exact decide_eq_false (by first | omega | simp_all)
  rw [decide_eq_true (by omega)]; simp_all
 rw [hz] at hC
 have hgr : eZ c = false := by rw [hx1]; simpa using c4
 have hri : eR c = false := by rw [hx4]; simpa using c13
 obtain ⟨k1, k2, k3⟩ := kV hgr
 refine ah (aa rfl (cu cm bS rfl rfl) ?_)
 refine am rfl (aS mH rfl (l5 W0 _ c h.g (fun g hg => (k3 g hg).2) (nR hri) k2)) ?_
 rintro _ B_ ⟨rfl, hB_⟩
 obtain rfl := hB_.symm
 refine aa rfl (cd rfl rfl) (ag (ab ?_))
 refine ax rfl ?_ ?_
 intro c20
 refine ae (ah (aa rfl (ai rfl) (aa rfl (ai rfl) (ag (ab (av (aD (au (.inl rfl) (.cons (ak rfl) (.cons (ak rfl) .nil)) ?_))))))))
 rw [hC, if_neg (by decide), if_pos (by omega)]
 exact ⟨_, ⟨0, rfl, rfl⟩, inferInstance⟩
 intro c20
 refine aB (ab (ae (ah (aa rfl (ai rfl) (aa rfl (ai rfl) (ag (ab (av (au (.inl rfl) (.cons (ak rfl) (.cons (ak rfl) .nil)) ?_)))))))))
 rw [hC, if_neg (by decide), if_neg (by omega)]
 exact ⟨_, ⟨0, rfl, rfl⟩, inferInstance⟩
 intro g18_25
 refine al rfl rfl rfl rfl (al rfl rfl rfl rfl (ar rfl rfl (aa rfl (aJ rfl rfl) (aa rfl (aJ rfl rfl) (ag (ab (eL rfl (aB (ab (ae (ae ?_)))))))))))
 have hz : x6 = false := by
  rw [hG]; split
  exact decide_eq_false (by first | omega | simp_all)
  rw [decide_eq_true (by omega)]; simp_all
 rw [hz] at hC
 have hgr : eZ c = false := by rw [hx1]; simpa using c4
 have hri : eR c = false := by rw [hx4]; simpa using c13
 obtain ⟨k1, k2, k3⟩ := kV hgr
 refine ah (aa rfl (cu cm bS rfl rfl) ?_)
 refine am rfl (aS mH rfl (l5 W0 _ c h.g (fun g hg => (k3 g hg).2) (nR hri) k2)) ?_
 rintro _ B_ ⟨rfl, hB_⟩
 obtain rfl := hB_.symm
 refine aa rfl (cd rfl rfl) (ag (ab ?_))
 refine ax rfl ?_ ?_
 intro c20
 refine ae (ah (aa rfl (ai rfl) (aa rfl (ai rfl) (ag (ab (av (aD (au (.inl rfl) (.cons (ak rfl) (.cons (ak rfl) .nil)) ?_))))))))
 rw [hC, if_neg (by decide), if_pos (by omega)]
 exact ⟨_, ⟨0, rfl, rfl⟩, inferInstance⟩
 intro c20
 refine aB (ab (ae (ah (aa rfl (ai rfl) (aa rfl (ai rfl) (ag (ab (av (au (.inl rfl) (.cons (ak rfl) (.cons (ak rfl) .nil)) ?_)))))))))
 rw [hC, if_neg (by decide), if_neg (by omega)]
 exact ⟨_, ⟨0, rfl, rfl⟩, inferInstance⟩
 intro g18_4
 refine al rfl rfl rfl rfl (al rfl rfl rfl rfl (al rfl rfl rfl rfl (al rfl rfl rfl rfl (aa rfl (aJ rfl rfl) (aa rfl (ac rfl) (ar rfl rfl ?_))))))
 refine aa rfl (ao rfl bw rfl az rfl (by first | exact Nat.zero_add _ | rfl)) ?_
 refine ar rfl rfl (aa rfl (ap aM rfl (aA rfl)) ?_)
 refine ar rfl rfl (aa rfl (aY rfl rfl) (aa rfl (aJ rfl rfl) (aa rfl (ac rfl) ?_)))
 refine bA rfl rfl rfl ?_ ?_
 intro g18_16
 refine al rfl rfl rfl rfl (al rfl rfl rfl rfl (aa rfl (aT rfl rfl) (aa rfl (ac rfl) (al rfl rfl rfl rfl (al rfl rfl rfl rfl (al rfl rfl rfl rfl (al rfl rfl rfl rfl (f6 rfl rfl rfl (f6 rfl rfl rfl (f6 rfl rfl rfl (al rfl rfl rfl rfl (aa rfl (aT rfl rfl) (ag (ab (bR rfl (ae (ah (aa rfl (ai rfl) (aa rfl (ai rfl) (ag (ab (av (aD ?_)))))))))))))))))))))))
 refine au (.inl rfl) (.cons (ak rfl) (.cons (ak rfl) .nil)) ?_
 have hz : x6 = true := by
  rw [hG]; split
  exact decide_eq_true (by first | omega | simp_all)
  first
    | (rw [decide_eq_false (by omega), Bool.and_false]; rfl)
    | simp_all
 rw [hC, hz]
 exact ⟨_, ⟨0, rfl, rfl⟩, inferInstance⟩
 intro g18_16
 refine aa rfl (ao rfl bw rfl az rfl (by first | exact Nat.zero_add _ | rfl)) ?_
 refine ar rfl rfl (aa rfl (ap aM rfl (aA rfl)) ?_)
 refine ar rfl rfl (aa rfl (cd rfl rfl) (aa rfl (aJ rfl rfl) (aa rfl (ac rfl) ?_)))
 refine bA rfl rfl rfl ?_ ?_
 intro g18_21
 refine al rfl rfl rfl rfl (al rfl rfl rfl rfl (al rfl rfl rfl rfl (f6 rfl rfl rfl (f6 rfl rfl rfl (f6 rfl rfl rfl (al rfl rfl rfl rfl (aa rfl (aT rfl rfl) (ag (ab (bR rfl (ae (ah (aa rfl (ai rfl) (aa rfl (ai rfl) (ag (ab (av (aD (au (.inl rfl) (.cons (ak rfl) (.cons (ak rfl) .nil)) ?_)))))))))))))))))))
 have hz : x6 = true := by
  rw [hG]; split
  exact decide_eq_true (by first | omega | simp_all)
  first
    | (rw [decide_eq_false (by omega), Bool.and_false]; rfl)
    | simp_all
 rw [hC, hz]
 exact ⟨_, ⟨0, rfl, rfl⟩, inferInstance⟩
 intro g18_21
 refine aa rfl (ao rfl bw rfl az rfl (by first | exact Nat.zero_add _ | rfl)) ?_
 refine ar rfl rfl (aa rfl (ap aM rfl (aA rfl)) ?_)
 refine ar rfl rfl (aa rfl (cz rfl rfl) (ar rfl rfl (aa rfl (ac rfl) ?_)))
 refine cG rfl rfl rfl ?_ ?_
 intro g18_25
 refine aa rfl (ao rfl bw rfl az rfl (by first | exact Nat.zero_add _ | rfl)) ?_
 refine ar rfl rfl (aa rfl (ap aM rfl (aA rfl)) ?_)
 refine ar rfl rfl (aa rfl (co rfl rfl) (ar rfl rfl (aa rfl (aT rfl rfl) (aa rfl (aJ rfl rfl) (ag (ab ?_))))))
 refine ax rfl ?_ ?_
 intro c18
 refine ae (ah (aa rfl (ai rfl) (aa rfl (ai rfl) (ag (ab (av (aD (au (.inl rfl) (.cons (ak rfl) (.cons (ak rfl) .nil)) ?_))))))))
 have hz : x6 = true := by
  rw [hG]; split
  exact decide_eq_true (by first | omega | simp_all)
  first
    | (rw [decide_eq_false (by omega), Bool.and_false]; rfl)
    | simp_all
 rw [hC, hz]
 exact ⟨_, ⟨0, rfl, rfl⟩, inferInstance⟩
 intro c18
 refine aB (ab (ae (ae ?_)))
 have hz : x6 = false := by
  rw [hG]; split
  exact decide_eq_false (by first | omega | simp_all)
  rw [decide_eq_true (by omega)]; simp_all
 rw [hz] at hC
 have hgr : eZ c = false := by rw [hx1]; simpa using c4
 have hri : eR c = false := by rw [hx4]; simpa using c13
 obtain ⟨k1, k2, k3⟩ := kV hgr
 refine ah (aa rfl (cu cm bS rfl rfl) ?_)
 refine am rfl (aS mH rfl (l5 W0 _ c h.g (fun g hg => (k3 g hg).2) (nR hri) k2)) ?_
 rintro _ B_ ⟨rfl, hB_⟩
 obtain rfl := hB_.symm
 refine aa rfl (cd rfl rfl) (ag (ab ?_))
 refine ax rfl ?_ ?_
 intro c20
 refine ae (ah (aa rfl (ai rfl) (aa rfl (ai rfl) (ag (ab (av (aD (au (.inl rfl) (.cons (ak rfl) (.cons (ak rfl) .nil)) ?_))))))))
 rw [hC, if_neg (by decide), if_pos (by omega)]
 exact ⟨_, ⟨0, rfl, rfl⟩, inferInstance⟩
 intro c20
 refine aB (ab (ae (ah (aa rfl (ai rfl) (aa rfl (ai rfl) (ag (ab (av (au (.inl rfl) (.cons (ak rfl) (.cons (ak rfl) .nil)) ?_)))))))))
 rw [hC, if_neg (by decide), if_neg (by omega)]
 exact ⟨_, ⟨0, rfl, rfl⟩, inferInstance⟩
 intro g18_25
 refine al rfl rfl rfl rfl (al rfl rfl rfl rfl (ar rfl rfl (aa rfl (aJ rfl rfl) (aa rfl (aJ rfl rfl) (ag (ab (eL rfl (aB (ab (ae (ae ?_)))))))))))
 have hz : x6 = false := by
  rw [hG]; split
  exact decide_eq_false (by first | omega | simp_all)
  rw [decide_eq_true (by omega)]; simp_all
 rw [hz] at hC
 have hgr : eZ c = false := by rw [hx1]; simpa using c4
 have hri : eR c = false := by rw [hx4]; simpa using c13
 obtain ⟨k1, k2, k3⟩ := kV hgr
 refine ah (aa rfl (cu cm bS rfl rfl) ?_)
 refine am rfl (aS mH rfl (l5 W0 _ c h.g (fun g hg => (k3 g hg).2) (nR hri) k2)) ?_
 rintro _ B_ ⟨rfl, hB_⟩
 obtain rfl := hB_.symm
 refine aa rfl (cd rfl rfl) (ag (ab ?_))
 refine ax rfl ?_ ?_
 intro c20
 refine ae (ah (aa rfl (ai rfl) (aa rfl (ai rfl) (ag (ab (av (aD (au (.inl rfl) (.cons (ak rfl) (.cons (ak rfl) .nil)) ?_))))))))
 rw [hC, if_neg (by decide), if_pos (by omega)]
 exact ⟨_, ⟨0, rfl, rfl⟩, inferInstance⟩
 intro c20
 refine aB (ab (ae (ah (aa rfl (ai rfl) (aa rfl (ai rfl) (ag (ab (av (au (.inl rfl) (.cons (ak rfl) (.cons (ak rfl) .nil)) ?_)))))))))
 rw [hC, if_neg (by decide), if_neg (by omega)]
 exact ⟨_, ⟨0, rfl, rfl⟩, inferInstance⟩
theorem nS (W0 : World) (R : List HP) (c : Cfg) (h : CfOk W0 c) :
    aC Tryz.prog W0 94 [.agg (cj c).toArray] R (fun v B => v = .bool (rt c) ∧ B = R) := by
 refine aF func94 ntmps94 rfl rfl ?_
 refine ae (ah (am rfl (bL rfl) ?_))
 rintro _ _ ⟨b1, rfl, rfl⟩
 refine aa rfl (ai rfl) (ag (ab (ae (ah (aa rfl (cu cm bS rfl rfl) ?_)))))
 refine am rfl (aS call75 rfl (uA W0 _ c h)) ?_
 rintro _ B_ ⟨at_, rfl, hB_⟩
 obtain rfl := hB_.symm
 refine aa rfl (ac rfl) (aa rfl (aZ rfl rfl) (aa rfl (aZ rfl rfl) (aa rfl (ai rfl) (aa rfl (ai rfl) (ag (ab (ae (ah (aa rfl (ac rfl) (aa rfl (cz rfl rfl) (aa rfl (ai rfl) (ag (ab (av (au (.inl rfl) (.cons (ak rfl) .nil) ?_)))))))))))))))
 refine ⟨_, ⟨?_, rfl⟩, inferInstance⟩
 refine congrArg Value.bool ?_
 rw [Bool.eq_iff_iff, rt]; simp
end
section
def cM (c : Cfg) (i : Nat) : Int × Int × Int := c.gl.getD i (0, 0, 0)
def d8 (c : Cfg) : Nat → Int
 | 0 => 0
 | i + 1 => d8 c i + ((cM c i).2.1 + (cM c i).2.2)
theorem l6 (c : Cfg) : ∀ i, dq c i = d8 c i + (c.nl.length : Int)
 | 0 => by rw [dq, d8, Int.zero_add]
 | i + 1 => by rw [dq, d8, l6 c i, cM]; omega
def f4 (c : Cfg) (f : Int) : Option Nat := iN (fun i => decide (f < d8 c (i + 1))) c.gl.length
def bD (c : Cfg) : Nat := (dq c c.gl.length).toNat
def uB (b f : Int) : Option Nat → Int × Int
 | some i => (1, (i : Int))
 | none => (2, f - b)
def iC (c : Cfg) (f : Int) : Int × Int := if rt c = true ∧ 0 ≤ f ∧ f < dq c c.gl.length then uB (d8 c c.gl.length) f (f4 c f) else (0, 0)
structure CfR (c : Cfg) : Prop where
  g1 : 1 ≤ c.gl.length
  g4 : c.gl.length ≤ 4
  gs : ∀ i, i < c.gl.length → 1 ≤ (cM c i).2.1 ∧ (cM c i).2.1 ≤ 8 ∧ 0 ≤ (cM c i).2.2 ∧ (cM c i).2.2 ≤ 8 - (cM c i).2.1
  nn : c.nl.length ≤ 4
  nd : 1 ≤ dq c c.gl.length ∧ dq c c.gl.length ≤ 32
theorem jr {c : Cfg} (h : ∀ i, i < c.gl.length → 1 ≤ (cM c i).2.1 ∧ (cM c i).2.1 ≤ 8 ∧ 0 ≤ (cM c i).2.2 ∧ (cM c i).2.2 ≤ 8 - (cM c i).2.1) : ∀ i, i ≤ c.gl.length → (i : Int) ≤ d8 c i ∧ d8 c i ≤ 8 * i
 | 0, _ => by simp [d8]
 | i + 1, hi => by
  have := jr h i (by omega)
  have := h i (by omega)
  rw [d8]; omega
theorem AG {c : Cfg} (h : CfR c) {i : Nat} (hi : i < c.gl.length) : d8 c i < d8 c (i + 1) := by
 have := h.gs i hi
 rw [d8]; omega
theorem uC {c : Cfg} (h : CfR c) {i j : Nat} (hij : i ≤ j) (hj : j ≤ c.gl.length) : d8 c i ≤ d8 c j := by
 induction j with
 | zero => obtain rfl : i = 0 := by omega
           exact Int.le_refl _
 | succ j ih =>
  rcases Nat.lt_or_ge i (j + 1) with k | k
  have := ih (by omega) (by omega)
  have := AG h (i := j) (by omega)
  omega
  obtain rfl : i = j + 1 := by omega
  exact Int.le_refl _
theorem fH {c : Cfg} (h : rt c = true) : CfR c := by
 obtain ⟨_, _, k1, _, _, k2, _, _, k3⟩ := kW h
 obtain ⟨g1, g4, gs⟩ := kV k1
 have hn : c.nl.length ≤ 4 := by
  simp only [eR, Bool.or_eq_false_iff, decide_eq_false_iff_not] at k2; omega
 have hg : ∀ i, i < c.gl.length → 1 ≤ (cM c i).2.1 ∧ (cM c i).2.1 ≤ 8 ∧ 0 ≤ (cM c i).2.2 ∧ (cM c i).2.2 ≤ 8 - (cM c i).2.1 := fun i hi => by
  have := (gs _ (List.getElem_mem hi)).2
  rwa [show cM c i = c.gl[i] by simp [cM, List.getD, hi]]
 have := jr hg c.gl.length (Nat.le_refl _)
 exact ⟨g1, g4, hg, hn, by rw [l6]; omega, k3⟩
theorem nT {c : Cfg} (h : CfR c) {f : Int} {i : Nat} : (f4 c f = some i ↔ i < c.gl.length ∧ f < d8 c (i + 1) ∧ (0 < i → d8 c i ≤ f)) := by
 rw [f4, iN, List.find?_eq_some_iff_getElem]
 simp only [decide_eq_true_iff]
 constructor
 rintro ⟨h1, k, hk, rfl, h2⟩
 rw [List.getElem_range] at h1 ⊢
 simp only [List.length_range] at hk
 refine ⟨hk, h1, fun h0 => ?_⟩
 have := h2 (k - 1) (by omega)
 simp only [List.getElem_range, Bool.not_eq_true', decide_eq_false_iff_not] at this
 rw [show k - 1 + 1 = k by omega] at this
 omega
 rintro ⟨h1, h2, h3⟩
 refine ⟨h2, i, by simpa using h1, by simp, fun j hj => ?_⟩
 simp only [List.getElem_range, Bool.not_eq_true', decide_eq_false_iff_not]
 have := uC h (i := j + 1) (j := i) (by omega) (by omega)
 have := h3 (by omega)
 omega
def l7 : Option Nat → Int × Bool
 | some i => ((i : Int), false)
 | none => (-1, false)
def cX (c : Cfg) (k : Nat) : Po := (List.range (bD c)).map fun g => if g < k then l7 (f4 c g) else (-1, false)
theorem l8 (c : Cfg) (k : Nat) : (cX c k).length = bD c := by simp [cX]
theorem nU {c : Cfg} {k f : Nat} (hf : f < bD c) : cW (cX c k) f = if f < k then l7 (f4 c f) else (-1, false) := by
 simp [cW, cX, List.getD, hf]
theorem uD (c : Cfg) : cX c 0 = List.replicate (bD c) (-1, false) := by
 apply List.ext_getElem
 simp [cX]
 intro i h1 h2; simp [cX]
theorem uE {c : Cfg} {k i : Nat} (hk : k < bD c) (h : f4 c k = some i) : cX c (k + 1) = (cX c k).set k ((i : Int), false) := by
 apply List.ext_getElem
 simp [cX]
 intro j h1 h2
 rw [List.getElem_set]
 simp only [cX, List.getElem_map, List.getElem_range]
 by_cases e : k = j
 subst e; simp [h, l7]
 rw [if_neg e]; congr 1; simp; omega
theorem uF {c : Cfg} {k : Nat} (h : f4 c k = none) : cX c (k + 1) = cX c k := by
 apply List.ext_getElem
 simp [cX]
 intro j h1 h2
 simp only [cX, List.getElem_map, List.getElem_range]
 by_cases e : j = k
 subst e; simp [h, l7]
 congr 1; simp; omega
theorem uG {c : Cfg} (h : CfR c) (k : Nat) : PoOk (cX c k) := ⟨by rw [l8, bD]; have := h.nd; omega, fun f hf => by
 rw [l8] at hf
 rw [nU hf]
 split
 cases e : f4 c f with
 | none => simp [l7]
 | some i =>
  have := ((nT h).1 e).1
  have := h.g4
  simp only [l7]; omega
 simp⟩
theorem uH : ∀ {l m : List Nat}, l.Nodup → (∀ x ∈ l, x ∈ m) → l.length ≤ m.length
 | [], _, _, _ => Nat.zero_le _
 | x :: l, m, hd, h => by
  rw [List.nodup_cons] at hd
  have hx := h x (by simp)
  have := uH (l := l) (m := m.erase x) hd.2 fun y hy => by
   have hne : y ≠ x := fun e => hd.1 (by rw [← e]; exact hy)
   rw [List.mem_erase_of_ne hne]
   exact h y (List.mem_cons_of_mem _ hy)
  rw [List.length_erase_of_mem hx] at this
  have := List.length_pos_of_mem hx
  rw [List.length_cons]; omega
theorem AH {c : Cfg} (h : CfR c) {i : Nat} (hi : i < c.gl.length) : (cM c i).2.1 + (cM c i).2.2 ≤ ((bJ (cX c (bD c)) i).length : Int) := by
 obtain ⟨a, ha⟩ : ∃ a : Nat, d8 c i = (a : Int) := ⟨(d8 c i).toNat, by have := jr h.gs i (by omega); omega⟩
 have hg := h.gs i hi
 obtain ⟨n, hn⟩ : ∃ n : Nat, (cM c i).2.1 + (cM c i).2.2 = (n : Int) := ⟨((cM c i).2.1 + (cM c i).2.2).toNat, by omega⟩
 have hs : d8 c (i + 1) = (a : Int) + n := by rw [d8, ha, hn]
 have hl := uC h (i := i + 1) (j := c.gl.length) (by omega) (Nat.le_refl _)
 have hnd := l6 c c.gl.length
 have hsub : ∀ x ∈ List.range' a n, x ∈ bJ (cX c (bD c)) i := fun x hx => by
  rw [List.mem_range'_1] at hx
  have hxn : x < bD c := by rw [bD]; omega
  rw [gD, l8, nU hxn, if_pos hxn, (nT h (i := i)).2 ⟨hi, by omega, fun _ => by omega⟩]
  exact ⟨hxn, rfl⟩
 have hd : (List.range' a n).Nodup := List.nodup_range' ..
 have := uH hd hsub
 rw [List.length_range'] at this
 rw [hn]; omega
end
section
open Go.RowKit
structure CfK (W0 : World) (c : Cfg) : Prop where
  ok : CfOk W0 c
  gc : c.gl.length ≤ c.gc
theorem nV {c : Cfg} (h : CfR c) : (∀ g ∈ c.gl, 1 ≤ g.2.1 ∧ g.2.1 ≤ 8 ∧ 0 ≤ g.2.2 ∧ g.2.2 ≤ 8 - g.2.1) := fun g hg => by
 obtain ⟨i, hi, rfl⟩ := List.getElem_of_mem hg
 have := h.gs i hi
 rwa [show cM c i = c.gl[i] by simp [cM, List.getD, hi]] at this
def gJ (c : Cfg) : Nat := if rt c then bD c else 0
theorem uI (c : Cfg) : gJ c ≤ 32 := by
 unfold gJ; split
 rename_i h; have := (fH h).nd; rw [bD]; omega
 omega
theorem AI (W0 : World) (R : List HP) (c : Cfg) (h : CfOk W0 c) :
    aC Tryz.prog W0 47 [.agg (cj c).toArray] R (fun v B => v = .int .i64 (gJ c : Nat) ∧ B = R) := by
 refine aF func47 ntmps47 rfl rfl ?_
 refine ae (ah (am rfl (bL rfl) ?_))
 rintro _ _ ⟨b1, rfl, rfl⟩
 refine aa rfl (ai rfl) (ag (ab (ae (ae (ah (aa rfl (cu cm bS rfl rfl) ?_))))))
 refine am rfl (aS vX rfl (qt W0 _ c h)) ?_
 rintro _ B_ ⟨rfl, hB_⟩
 obtain rfl := hB_.symm
 refine aa rfl (bN rfl) (ag (ab ?_))
 refine ax rfl ?_ ?_
 intro c1
 refine ae (ah (aa rfl (ai rfl) (ag (ab (av (aD (au (.inl rfl) (.cons (ak rfl) .nil) ?_)))))))
 have hr : rt c = false := by simpa using c1
 rw [gJ, hr]
 exact ⟨_, ⟨rfl, rfl⟩, inferInstance⟩
 intro c1
 have hr : rt c = true := by simpa using c1
 have hR := fH hr
 refine aB (ab (ae (ah (aa rfl (cu cm bS rfl rfl) ?_))))
 refine am rfl (aS vL rfl (qf W0 _ c h.g (nV hR) hR.nn hR.g4)) ?_
 rintro _ B_ ⟨rfl, hB_⟩
 obtain rfl := hB_.symm
 refine aa rfl (ai rfl) (ag (ab (av (au (.inl rfl) (.cons (ak rfl) .nil) ?_))))
 have hn : ((gJ c : Nat) : Int) = dq c c.gl.length := by
  have := hR.nd
  rw [gJ, if_pos hr, bD]; omega
 rw [hn]
 exact ⟨_, ⟨rfl, rfl⟩, inferInstance⟩
theorem qP (W0 : World) (R : List HP) (c : Cfg) (h : CfK W0 c) (hR : CfR c) (n : Nat) (hn : n ≤ c.gl.length) :
    aC Tryz.prog W0 256 [.agg (cj c).toArray, .int .i64 n] R (fun v B => v = .int .i64 (d8 c n) ∧ B = R) := by
 have hgc := h.gc
 have hg4 := hR.g4
 refine aF func256 ntmps256 rfl rfl ?_
 refine ae (ah (am rfl (bL rfl) ?_))
 rintro _ _ ⟨b1, rfl, rfl⟩
 refine aa rfl (ai rfl) (ag (ab (ae (ah (aa rfl (ai rfl) (ag (ab (ae (ae (ah ?_))))))))))
 refine aa rfl (ao rfl bw rfl du rfl (by first | exact Nat.zero_add _ | rfl)) ?_
 refine aa rfl (ap dy rfl (aA rfl)) ?_
 refine aa rfl (ac rfl) ?_
 refine aa rfl (jN dj ej rfl rfl (h := n) rfl (by omega)) ?_
 refine aa rfl (bq dj rfl) (aa rfl (ac rfl) (ag (ab (b0 ?_))))
 refine cC (fun i : Nat => i ≤ n) (fun i => [(5, .int .i64 (d8 c i)), (11, .slice c.ga n c.gc), (12, .int .i64 n), (13, .int .i64 i)]) (fun _ => R) (fun i => n - i) 0 ?_ ?_ ?_ ?_
 exact Nat.zero_le _
 · repeat (first | exact aX | refine aU rfl ?_)
 exact inferInstance
 intro i hi
 refine ae (ah (aa rfl (aY rfl rfl) (ag (ab (ae ?_)))))
 refine ax rfl ?_ ?_
 intro c3
 refine aB (ab (ae (b0 (ae ?_))))
 have hi1 : i < c.gl.length := by omega
 have hin : i < n := by omega
 obtain ⟨g, o, hga, hc⟩ := (h.ok.g R).at_ hi1
 obtain ⟨x, hx⟩ : ∃ x, c.gl[i] = x := ⟨_, rfl⟩
 rw [hx] at hc
 have hA : cM c i = x := by simp [cM, List.getD, hi1, hx]
 have hbx := hR.gs i hi1
 rw [hA] at hbx
 have hst : d8 c (i + 1) = d8 c i + (x.2.1 + x.2.2) := by rw [d8, hA]
 have hl1 := jr hR.gs i (by omega)
 refine ah ?_
 refine aa rfl (ec dj ej rfl hga rfl rfl hin (by first | exact Nat.zero_add _ | rfl)) ?_
 refine aa rfl (cQ rD ej rfl hc.weak rfl) ?_
 refine am rfl (dd lq) ?_
 rintro _ _ ⟨bx, rfl, rfl⟩
 refine bE (cK ej rfl rfl rfl rfl rfl) ?_
 rintro _ _ rfl
 refine ag (ab (ah (aa rfl (ac rfl) ?_)))
 refine aa rfl (ao rfl dO rfl az rfl (by first | exact Nat.zero_add _ | rfl)) ?_
 refine aa rfl (ap aM rfl (aA rfl)) ?_
 refine aa rfl (ao rfl dO rfl az rfl (by first | exact Nat.zero_add _ | rfl)) ?_
 refine aa rfl (ap aM rfl (aA rfl)) ?_
 refine aa rfl (bC rfl rfl (aW (by omega))) ?_
 refine aa rfl (bC rfl rfl (by rw [aW (by omega)]; exact hst.symm : IntKind.wrap .i64 (d8 c i + (x.2.1 + x.2.2)) = d8 c (i + 1))) ?_
 refine aa rfl (ai rfl) (ag (bF (ab (ah ?_))))
 refine aa rfl (bC rfl rfl (by first | exact aW (by omega) | rfl)) ?_
 refine aa rfl (ac rfl) (ag (ab ?_))
 refine cp (i + 1) ?_ ?_ ?_ ?_
 omega
 omega
 · repeat (first | exact aX | refine aU rfl ?_)
 exact inferInstance
 intro c3
 refine bX (bi (bi (bZ (ab (ae (ah (aa rfl (ac rfl) (aa rfl (ai rfl) (ag (ab (av (au (.inl rfl) (.cons (ak rfl) .nil) ?_))))))))))))
 obtain rfl : i = n := by omega
 exact ⟨_, ⟨rfl, rfl⟩, inferInstance⟩
theorem uJ {c : Cfg} {f : Int} {i : Nat} (hi : i < c.gl.length) (h : f < d8 c (i + 1)) (hI : ∀ j, j < i → ¬ f < d8 c (j + 1)) : f4 c f = some i :=
  tE hi (decide_eq_true h) fun j hj => decide_eq_false (hI j hj)
theorem uK {c : Cfg} {f : Int} (hI : ∀ j, j < c.gl.length → ¬ f < d8 c (j + 1)) : f4 c f = none := tF fun j hj => decide_eq_false (hI j hj)
@[reducible] def nW (x : Int × Int) : List Value := [.int .i64 x.1, .int .i64 x.2]
theorem AJ (W0 : World) (R : List HP) (c : Cfg) (h : CfK W0 c) (f : Nat) :
    aC Tryz.prog W0 122 [.agg (cj c).toArray, .int .i64 f] R (fun v B => v = .agg (nW (iC c f)).toArray ∧ B = R) := by
 obtain ⟨w, hw⟩ : ∃ w, rt c = w := ⟨_, rfl⟩
 have hO : iC c f = if w = true ∧ 0 ≤ (f : Int) ∧ (f : Int) < dq c c.gl.length then uB (d8 c c.gl.length) f (f4 c f) else (0, 0) := by rw [iC, hw]
 rw [hO]
 refine aF func122 ntmps122 rfl rfl ?_
 refine ae (ah (am rfl (bL rfl) ?_))
 rintro _ _ ⟨b2, rfl, rfl⟩
 refine am rfl (dd iT) ?_
 rintro _ _ ⟨b4, rfl, rfl⟩
 refine ag (ab (ae (ae (ah (aa rfl (cu cm bS rfl rfl) ?_)))))
 refine am rfl (aS vX rfl (qt W0 _ c h.ok)) ?_
 rintro _ B_ ⟨rfl, hB_⟩
 obtain rfl := hB_.symm
 rw [hw]
 refine aa rfl (bN rfl) (aa rfl (ac rfl) ?_)
 refine bA rfl rfl rfl ?_ ?_
 · intro g1_4
   refine al rfl rfl rfl rfl (aa rfl (aT rfl rfl) (aa rfl (ac rfl) (al rfl rfl rfl rfl (al rfl rfl rfl rfl (al rfl rfl rfl rfl (al rfl rfl rfl rfl (aa rfl (aT rfl rfl) (ag (ab (bR rfl (ae (ah (aa rfl (bQ iU iT (aE az (aE az bP)) bO) ?_)))))))))))))
   refine bE (cK gv rfl rfl rfl rfl rfl) ?_
   rintro _ _ rfl
   refine ag (ab (av (aD (au (.inl rfl) (.cons (fj ly gv rfl rfl) .nil) ?_))))
   rw [if_neg (by first | (rintro ⟨q1, q2, q3⟩; omega) | (rintro ⟨q1, q2⟩; simp_all; done) | (rintro ⟨q1, q2, q3⟩; simp_all; omega))]
   exact ⟨_, ⟨rfl, rfl⟩, inferInstance⟩
 intro g1_4
 refine aa rfl (ac rfl) (ar rfl rfl (aa rfl (aY rfl rfl) (aa rfl (aJ rfl rfl) (aa rfl (ac rfl) ?_))))
 refine bA rfl rfl rfl ?_ ?_
 · intro g1_8
   refine al rfl rfl rfl rfl (al rfl rfl rfl rfl (al rfl rfl rfl rfl (aa rfl (aT rfl rfl) (ag (ab (bR rfl (ae (ah (aa rfl (bQ iU iT (aE az (aE az bP)) bO) ?_)))))))))
   refine bE (cK gv rfl rfl rfl rfl rfl) ?_
   rintro _ _ rfl
   refine ag (ab (av (aD (au (.inl rfl) (.cons (fj ly gv rfl rfl) .nil) ?_))))
   rw [if_neg (by first | (rintro ⟨q1, q2, q3⟩; omega) | (rintro ⟨q1, q2⟩; simp_all; done) | (rintro ⟨q1, q2, q3⟩; simp_all; omega))]
   exact ⟨_, ⟨rfl, rfl⟩, inferInstance⟩
 intro g1_8
 have hw1 : w = true := by simp_all
 have hR := fH (hw.trans hw1)
 have hg4 := hR.g4
 have hnd := hR.nd
 refine aa rfl (ac rfl) (ar rfl rfl (aa rfl (cu cm bS rfl rfl) ?_))
 refine ar rfl rfl (am rfl (aS vL rfl (qf W0 _ c h.ok.g (nV hR) hR.nn hR.g4)) ?_)
 rintro _ B_ ⟨rfl, hB_⟩
 obtain rfl := hB_.symm
 refine ar rfl rfl (aa rfl (cF rfl rfl) (aa rfl (aJ rfl rfl) (ag (ab ?_))))
 refine ax rfl ?_ ?_
 · intro c1
   refine ae (ah (aa rfl (bQ iU iT (aE az (aE az bP)) bO) ?_))
   refine bE (cK gv rfl rfl rfl rfl rfl) ?_
   rintro _ _ rfl
   refine ag (ab (av (aD (au (.inl rfl) (.cons (fj ly gv rfl rfl) .nil) ?_))))
   rw [if_neg (by first | (rintro ⟨q1, q2, q3⟩; omega) | (rintro ⟨q1, q2⟩; simp_all; done) | (rintro ⟨q1, q2, q3⟩; simp_all; omega))]
   exact ⟨_, ⟨rfl, rfl⟩, inferInstance⟩
 intro c1
 refine aB (ab (ae (ae ?_)))
 have hw1 : w = true := by simp_all
 have hR := fH (hw.trans hw1)
 have hg4 := hR.g4
 have hnd := hR.nd
 rw [if_pos ⟨hw1, by omega, by first | omega | (simp_all; omega)⟩]
 refine ah ?_
 refine aa rfl (ao rfl bw rfl du rfl (by first | exact Nat.zero_add _ | rfl)) ?_
 refine aa rfl (ap dy rfl (aA rfl)) ?_
 refine aa rfl (bq dj rfl) (aa rfl (ac rfl) (ag (ab (b0 ?_))))
 refine cC (fun i : Nat => i ≤ c.gl.length ∧ ∀ j, j < i → ¬ (f : Int) < d8 c (j + 1)) (fun i => [(1, .int .i64 f), (2, .pointer (some ⟨b2, 0, none⟩)), (4, .pointer (some ⟨b4, 0, none⟩)), (22, .int .i64 (c.gl.length : Nat)), (23, .int .i64 i)]) (fun _ => pt b2 (d7 c) :: pt b4 (aw [.int .i64 0, .int .i64 0] 195) :: R) (fun i => c.gl.length - i) 0 ?_ ?_ ?_ ?_
 exact ⟨Nat.zero_le _, fun j hj => absurd hj (Nat.not_lt_zero _)⟩
 · repeat (first | exact aX | refine aU rfl ?_)
 exact inferInstance
 intro i ⟨hi, hI⟩
 refine ae (ah (aa rfl (aY rfl rfl) (ag (ab (ae ?_)))))
 refine ax rfl ?_ ?_
 intro c4
 refine aB (ab (ae (b0 (ae ?_))))
 have hi1 : i < c.gl.length := by omega
 refine ah (aa rfl (ac rfl) (aa rfl (ai rfl) (ag (ab (ae (ah (aa rfl (ac rfl) (aa rfl (cu cm bS rfl rfl) ?_))))))))
 refine aa rfl (ac rfl) ?_
 refine aa rfl (bC rfl rfl (by rw [aW (by omega)]; omega : IntKind.wrap .i64 ((i : Int) + 1) = ((i + 1 : Nat) : Int))) ?_
 refine am rfl (aS vY rfl (qP W0 _ c h hR (i + 1) hi1)) ?_
 rintro _ B_ ⟨rfl, hB_⟩
 obtain rfl := hB_.symm
 refine aa rfl (aY rfl rfl) (ag (ab ?_))
 refine ax rfl ?_ ?_
 intro c6
 refine ae (ah (aa rfl (ac rfl) (aa rfl (bQ iU iT (aE az (aE az bP)) (bn rfl az rfl rfl (Nat.le_of_ble_eq_true rfl) SetL.eq (bn rfl az rfl rfl (Nat.le_of_ble_eq_true rfl) SetL.eq bO))) ?_)))
 refine bE (cK gv rfl rfl rfl rfl rfl) ?_
 rintro _ _ rfl
 refine ag (ab (av (bj (aD (aD (bj (aD (au (.inl rfl) (.cons (fj ly gv rfl rfl) .nil) ?_))))))))
 rw [uJ hi1 c6 hI]
 exact ⟨_, ⟨rfl, rfl⟩, inferInstance⟩
 intro c6
 refine aB (bF (ab (ah ?_)))
 refine aa rfl (bC rfl rfl (by first | exact aW (by omega) | rfl)) ?_
 refine aa rfl (ac rfl) (ag (ab ?_))
 refine cp (i + 1) ?_ ?_ ?_ ?_
 refine ⟨by omega, fun j hj => ?_⟩
 rcases Nat.lt_or_ge j i with q | q
 exact hI j q
 rw [show j = i by omega]; exact c6
 omega
 · repeat (first | exact aX | refine aU rfl ?_)
 exact inferInstance
 intro c4
 refine bX (bi (bi (bZ (ab (ae ?_)))))
 obtain rfl : i = c.gl.length := by omega
 rw [uK hI]
 have hbn := jr hR.gs c.gl.length (Nat.le_refl _)
 have hnb := l6 c c.gl.length
 refine ah (aa rfl (ac rfl) (aa rfl (cu cm bS rfl rfl) ?_))
 refine aa rfl (ao rfl bw rfl du rfl (by first | exact Nat.zero_add _ | rfl)) ?_
 refine aa rfl (ap dy rfl (aA rfl)) ?_
 refine aa rfl (bq dj rfl) (am rfl (aS vY rfl (qP W0 _ c h hR c.gl.length (Nat.le_refl _))) ?_)
 rintro _ B_ ⟨rfl, hB_⟩
 obtain rfl := hB_.symm
 refine aa rfl (dW rfl rfl (aW (by omega))) ?_
 refine aa rfl (bQ iU iT (aE az (aE az bP)) (bn rfl az rfl rfl (Nat.le_of_ble_eq_true rfl) SetL.eq (bn rfl az rfl rfl (Nat.le_of_ble_eq_true rfl) SetL.eq bO))) ?_
 refine bE (cK gv rfl rfl rfl rfl rfl) ?_
 rintro _ _ rfl
 refine ag (ab (av (au (.inl rfl) (.cons (fj ly gv rfl rfl) .nil) ?_)))
 exact ⟨_, ⟨rfl, rfl⟩, inferInstance⟩
def i9 (c : Cfg) (i : Int) : Int := if rt c = true ∧ 0 ≤ i ∧ i < c.nl.length then d8 c c.gl.length + i else -1
theorem AK (W0 : World) (R : List HP) (c : Cfg) (h : CfK W0 c) (i : Int) :
    aC Tryz.prog W0 206 [.agg (cj c).toArray, .int .i64 i] R (fun v B => v = .int .i64 (i9 c i) ∧ B = R) := by
 obtain ⟨w, hw⟩ : ∃ w, rt c = w := ⟨_, rfl⟩
 have hO : i9 c i = if w = true ∧ 0 ≤ i ∧ i < c.nl.length then d8 c c.gl.length + i else -1 := by rw [i9, hw]
 rw [hO]
 refine aF func206 ntmps206 rfl rfl ?_
 refine ae (ah (am rfl (bL rfl) ?_))
 rintro _ _ ⟨b2, rfl, rfl⟩
 refine aa rfl (ai rfl) (ag (ab (ae (ae (ah (aa rfl (cu cm bS rfl rfl) ?_))))))
 refine am rfl (aS vX rfl (qt W0 _ c h.ok)) ?_
 rintro _ B_ ⟨rfl, hB_⟩
 obtain rfl := hB_.symm
 rw [hw]
 refine aa rfl (bN rfl) (aa rfl (ac rfl) ?_)
 refine bA rfl rfl rfl ?_ ?_
 · intro g1_4
   refine al rfl rfl rfl rfl (aa rfl (aT rfl rfl) (aa rfl (ac rfl) (al rfl rfl rfl rfl (al rfl rfl rfl rfl (al rfl rfl rfl rfl (al rfl rfl rfl rfl (al rfl rfl rfl rfl (aa rfl (aT rfl rfl) (ag (ab (bR rfl (ae (ah (aa rfl (ai rfl) (ag (ab (av (aD (au (.inl rfl) (.cons (ak rfl) .nil) ?_)))))))))))))))))))
   rw [if_neg (by first | (rintro ⟨q1, q2, q3⟩; omega) | (rintro ⟨q1, q2⟩; simp_all; done) | (rintro ⟨q1, q2, q3⟩; simp_all; omega))]
   exact ⟨_, ⟨rfl, rfl⟩, inferInstance⟩
 intro g1_4
 refine aa rfl (ac rfl) (ar rfl rfl (aa rfl (aY rfl rfl) (aa rfl (aJ rfl rfl) (aa rfl (ac rfl) ?_))))
 refine bA rfl rfl rfl ?_ ?_
 · intro g1_8
   refine al rfl rfl rfl rfl (al rfl rfl rfl rfl (al rfl rfl rfl rfl (al rfl rfl rfl rfl (aa rfl (aT rfl rfl) (ag (ab (bR rfl (ae (ah (aa rfl (ai rfl) (ag (ab (av (aD (au (.inl rfl) (.cons (ak rfl) .nil) ?_)))))))))))))))
   rw [if_neg (by first | (rintro ⟨q1, q2, q3⟩; omega) | (rintro ⟨q1, q2⟩; simp_all; done) | (rintro ⟨q1, q2, q3⟩; simp_all; omega))]
   exact ⟨_, ⟨rfl, rfl⟩, inferInstance⟩
 intro g1_8
 refine aa rfl (ac rfl) (ar rfl rfl ?_)
 refine aa rfl (ao rfl bw rfl fg rfl (by first | exact Nat.zero_add _ | rfl)) ?_
 refine ar rfl rfl (aa rfl (ap fZ rfl (aA rfl)) ?_)
 refine ar rfl rfl (aa rfl (bq fv rfl) (ar rfl rfl (aa rfl (cF rfl rfl) (aa rfl (aJ rfl rfl) (ag (ab ?_))))))
 refine ax rfl ?_ ?_
 · intro c1
   refine ae (ah (aa rfl (ai rfl) (ag (ab (av (aD (au (.inl rfl) (.cons (ak rfl) .nil) ?_)))))))
   rw [if_neg (by first | (rintro ⟨q1, q2, q3⟩; omega) | (rintro ⟨q1, q2⟩; simp_all; done) | (rintro ⟨q1, q2, q3⟩; simp_all; omega))]
   exact ⟨_, ⟨rfl, rfl⟩, inferInstance⟩
 intro c1
 refine aB (ab (ae ?_))
 have hw1 : w = true := by simp_all
 have hR := fH (hw.trans hw1)
 have hg4 := hR.g4
 have hnn := hR.nn
 have hlt : i < c.nl.length := by first | omega | (simp_all; omega)
 rw [if_pos ⟨hw1, by omega, hlt⟩]
 have hbn := jr hR.gs c.gl.length (Nat.le_refl _)
 refine ah (aa rfl (cu cm bS rfl rfl) ?_)
 refine aa rfl (ao rfl bw rfl du rfl (by first | exact Nat.zero_add _ | rfl)) ?_
 refine aa rfl (ap dy rfl (aA rfl)) ?_
 refine aa rfl (bq dj rfl) (am rfl (aS vY rfl (qP W0 _ c h hR c.gl.length (Nat.le_refl _))) ?_)
 rintro _ B_ ⟨rfl, hB_⟩
 obtain rfl := hB_.symm
 refine aa rfl (ac rfl) ?_
 refine aa rfl (bC rfl rfl (aW (by omega))) ?_
 refine aa rfl (ai rfl) (ag (ab (av (au (.inl rfl) (.cons (ak rfl) .nil) ?_))))
 exact ⟨_, ⟨rfl, rfl⟩, inferInstance⟩
theorem AL (W0 : World) (R : List HP) (c : Cfg) (h : CfOk W0 c) :
    aC Tryz.prog W0 77 [.agg (cj c).toArray] R (fun v B => v = .int .i64 (gJ c : Nat) ∧ B = R) := by
 refine aF func77 ntmps77 rfl rfl ?_
 refine ae (ah (am rfl (bL rfl) ?_))
 rintro _ _ ⟨b1, rfl, rfl⟩
 refine aa rfl (ai rfl) (ag (ab (ae (ae (ah (aa rfl (cu cm bS rfl rfl) ?_))))))
 refine am rfl (aS rJ rfl (nS W0 _ c h)) ?_
 rintro _ B_ ⟨rfl, hB_⟩
 obtain rfl := hB_.symm
 refine aa rfl (bN rfl) (ag (ab ?_))
 refine ax rfl ?_ ?_
 intro c1
 refine ae (ah (aa rfl (ai rfl) (ag (ab (av (aD (au (.inl rfl) (.cons (ak rfl) .nil) ?_)))))))
 have hr : rt c = false := by simpa using c1
 rw [gJ, hr]
 exact ⟨_, ⟨rfl, rfl⟩, inferInstance⟩
 intro c1
 have hr : rt c = true := by simpa using c1
 have hR := fH hr
 refine aB (ab (ae (ah (aa rfl (cu cm bS rfl rfl) ?_))))
 refine am rfl (aS mH rfl (l5 W0 _ c h.g (nV hR) hR.nn hR.g4)) ?_
 rintro _ B_ ⟨rfl, hB_⟩
 obtain rfl := hB_.symm
 refine aa rfl (ai rfl) (ag (ab (av (au (.inl rfl) (.cons (ak rfl) .nil) ?_))))
 have hn : ((gJ c : Nat) : Int) = dq c c.gl.length := by
  have := hR.nd
  rw [gJ, if_pos hr, bD]; omega
 rw [hn]
 exact ⟨_, ⟨rfl, rfl⟩, inferInstance⟩
theorem AM (W0 : World) (R : List HP) (c : Cfg) (h : CfK W0 c) (f : Nat) (hr : rt c = true) (hf : (f : Int) < dq c c.gl.length) :
    aC Tryz.prog W0 79 [.agg (cj c).toArray, .int .i64 f] R (fun v B => v = .agg (nW (iC c f)).toArray ∧ B = R) := by
 have hR := fH hr
 have hg4 := hR.g4
 have hnd := hR.nd
 have hnb := l6 c c.gl.length
 rw [iC, if_pos ⟨hr, by omega, hf⟩]
 refine aF func79 ntmps79 rfl rfl ?_
 refine ae (ah (am rfl (bL rfl) ?_))
 rintro _ _ ⟨b2, rfl, rfl⟩
 refine am rfl (dd iT) ?_
 rintro _ _ ⟨b4, rfl, rfl⟩
 refine ag (ab (ae (ae (ah (aa rfl (cu cm bS rfl rfl) ?_)))))
 refine am rfl (aS rJ rfl (nS W0 _ c h.ok)) ?_
 rintro _ B_ ⟨rfl, hB_⟩
 obtain rfl := hB_.symm
 rw [hr]
 refine aa rfl (bN rfl) (aa rfl (ac rfl) ?_)
 refine bA rfl rfl rfl ?_ ?_
 intro g1_4
 exact absurd g1_4 (by decide)
 intro g1_4
 refine aa rfl (ac rfl) (ar rfl rfl (aa rfl (aY rfl rfl) (aa rfl (aJ rfl rfl) (ag (ab ?_)))))
 refine ax rfl ?_ ?_
 intro c1
 first | exact absurd c1 (by decide) | (exfalso; omega)
 intro c1
 refine aB (ab (ae (ah (aa rfl (ai rfl) (ag (ab (ae (ae (ah (aa rfl (ai rfl) (ag (ab (b0 ?_)))))))))))))
 refine cC (fun i : Nat => i ≤ c.gl.length ∧ ∀ j, j < i → ¬ (f : Int) < d8 c (j + 1)) (fun i => [(1, .int .i64 f), (2, .pointer (some ⟨b2, 0, none⟩)), (4, .pointer (some ⟨b4, 0, none⟩)), (5, .int .i64 (d8 c i)), (6, .int .i64 i)]) (fun _ => pt b2 (d7 c) :: pt b4 (aw [.int .i64 0, .int .i64 0] 195) :: R) (fun i => c.gl.length - i) 0 ?_ ?_ ?_ ?_
 exact ⟨Nat.zero_le _, fun j hj => absurd hj (Nat.not_lt_zero _)⟩
 · repeat (first | exact aX | refine aU rfl ?_)
 exact inferInstance
 intro i ⟨hi, hI⟩
 refine ae (ae (ah (aa rfl (ac rfl) ?_)))
 refine aa rfl (ao rfl bw rfl du rfl (by first | exact Nat.zero_add _ | rfl)) ?_
 refine aa rfl (ap dy rfl (aA rfl)) ?_
 refine aa rfl (bq dj rfl) (aa rfl (aY rfl rfl) (ag (ab ?_)))
 refine ax rfl ?_ ?_
 intro c5
 refine aB (ab (ae (b0 (ae ?_))))
 have hi1 : i < c.gl.length := by omega
 obtain ⟨g, o, hga, hc⟩ := (h.ok.g []).at_ hi1
 obtain ⟨x, hx⟩ : ∃ x, c.gl[i] = x := ⟨_, rfl⟩
 rw [hx] at hc
 have hA : cM c i = x := by simp [cM, List.getD, hi1, hx]
 have hbx := hR.gs i hi1
 rw [hA] at hbx
 have hst : d8 c (i + 1) = d8 c i + (x.2.1 + x.2.2) := by rw [d8, hA]
 have hl1 := jr hR.gs i (by omega)
 refine cY [(b2, 0, cj c), (g, o + i * 3, dZ x)] 16 cV rfl (aV (df hc.weak aK)) (fun hS => ?_)
 refine aj 0 rfl rfl (by kernel_rfl) (by kernel_rfl) (by kernel_rfl) rfl hS (ac rfl) ?_
 refine aj 1 rfl rfl (by kernel_rfl) (by kernel_rfl) (by kernel_rfl) rfl hS (ao rfl bw rfl du rfl (by first | exact Nat.zero_add _ | rfl)) ?_
 refine aj 2 rfl rfl (by kernel_rfl) (by kernel_rfl) (by kernel_rfl) rfl hS (ap dy rfl (by first | exact aG (k := 0) rfl rfl | exact aG (k := 1) rfl rfl)) ?_
 refine aj 3 rfl rfl (by kernel_rfl) (by kernel_rfl) (by kernel_rfl) rfl hS (ac rfl) ?_
 refine aj 4 rfl rfl (by kernel_rfl) (by kernel_rfl) (by kernel_rfl) rfl hS (ec dj ej rfl hga rfl rfl hi1 (by first | exact Nat.zero_add _ | rfl)) ?_
 refine aj 5 rfl rfl (by kernel_rfl) (by kernel_rfl) (by kernel_rfl) rfl hS (ao rfl dO rfl az rfl (by first | exact Nat.zero_add _ | rfl)) ?_
 refine aj 6 rfl rfl (by kernel_rfl) (by kernel_rfl) (by kernel_rfl) rfl hS (ap aM rfl (eW (k := 1) (j := 1) rfl rfl)) ?_
 refine aj 7 rfl rfl (by kernel_rfl) (by kernel_rfl) (by kernel_rfl) rfl hS (bC rfl rfl (aW (by omega))) ?_
 refine aj 8 rfl rfl (by kernel_rfl) (by kernel_rfl) (by kernel_rfl) rfl hS (ao rfl bw rfl du rfl (by first | exact Nat.zero_add _ | rfl)) ?_
 refine aj 9 rfl rfl (by kernel_rfl) (by kernel_rfl) (by kernel_rfl) rfl hS (ap dy rfl (by first | exact aG (k := 0) rfl rfl | exact aG (k := 1) rfl rfl)) ?_
 refine aj 10 rfl rfl (by kernel_rfl) (by kernel_rfl) (by kernel_rfl) rfl hS (ac rfl) ?_
 refine aj 11 rfl rfl (by kernel_rfl) (by kernel_rfl) (by kernel_rfl) rfl hS (ec dj ej rfl hga rfl rfl hi1 (by first | exact Nat.zero_add _ | rfl)) ?_
 refine aj 12 rfl rfl (by kernel_rfl) (by kernel_rfl) (by kernel_rfl) rfl hS (ao rfl dO rfl az rfl (by first | exact Nat.zero_add _ | rfl)) ?_
 refine aj 13 rfl rfl (by kernel_rfl) (by kernel_rfl) (by kernel_rfl) rfl hS (ap aM rfl (eW (k := 1) (j := 2) rfl rfl)) ?_
 refine aj 14 rfl rfl (by kernel_rfl) (by kernel_rfl) (by kernel_rfl) rfl hS (bC rfl rfl (by rw [aW (by omega)]; omega : IntKind.wrap .i64 (d8 c i + x.2.1 + x.2.2) = d8 c (i + 1))) ?_
 refine aj 15 rfl rfl (by kernel_rfl) (by kernel_rfl) (by kernel_rfl) rfl hS (ai rfl) ?_
 refine cg (by kernel_rfl) ?_; clear hS
 refine ab (ae (ah (aa rfl (ac rfl) (aa rfl (ac rfl) (aa rfl (aY rfl rfl) (ag (ab ?_)))))))
 refine ax rfl ?_ ?_
 intro c8
 refine ae (ah (aa rfl (ac rfl) (aa rfl (bQ iU iT (aE az (aE az bP)) (bn rfl az rfl rfl (Nat.le_of_ble_eq_true rfl) SetL.eq (bn rfl az rfl rfl (Nat.le_of_ble_eq_true rfl) SetL.eq bO))) ?_)))
 refine bE (cK gv rfl rfl rfl rfl rfl) ?_
 rintro _ _ rfl
 refine ag (ab (av (bj (aD (aD (bj (aD (au (.inl rfl) (.cons (fj ly gv rfl rfl) .nil) ?_))))))))
 rw [uJ hi1 c8 hI]
 exact ⟨_, ⟨rfl, rfl⟩, inferInstance⟩
 intro c8
 refine aB (bF (ab (ah (aa rfl (ac rfl) ?_))))
 refine aa rfl (bC rfl rfl (by first | exact aW (by omega) | rfl)) ?_
 refine aa rfl (ai rfl) (ag (ab ?_))
 refine cp (i + 1) ?_ ?_ ?_ ?_
 refine ⟨by omega, fun j hj => ?_⟩
 rcases Nat.lt_or_ge j i with q | q
 exact hI j q
 rw [show j = i by omega]; exact c8
 omega
 · repeat (first | exact aX | refine aU rfl ?_)
 exact inferInstance
 intro c5
 refine bX (bi (bi (bZ (ab (ae (ae ?_))))))
 obtain rfl : i = c.gl.length := by omega
 rw [uK hI]
 have hbn := jr hR.gs c.gl.length (Nat.le_refl _)
 refine ah (aa rfl (ac rfl) (aa rfl (ac rfl) ?_))
 refine aa rfl (dW rfl rfl (aW (by omega))) ?_
 refine aa rfl (ao rfl bw rfl fg rfl (by first | exact Nat.zero_add _ | rfl)) ?_
 refine aa rfl (ap fZ rfl (aA rfl)) ?_
 refine aa rfl (bq fv rfl) (aa rfl (aY rfl rfl) (ag (ab ?_)))
 refine ax rfl ?_ ?_
 intro c10
 refine ae (ah (aa rfl (ac rfl) (aa rfl (ac rfl) ?_)))
 refine aa rfl (dW rfl rfl (aW (by omega))) ?_
 refine aa rfl (bQ iU iT (aE az (aE az bP)) (bn rfl az rfl rfl (Nat.le_of_ble_eq_true rfl) SetL.eq (bn rfl az rfl rfl (Nat.le_of_ble_eq_true rfl) SetL.eq bO))) ?_
 refine bE (cK gv rfl rfl rfl rfl rfl) ?_
 rintro _ _ rfl
 refine ag (ab (av (aD (au (.inl rfl) (.cons (fj ly gv rfl rfl) .nil) ?_))))
 exact ⟨_, ⟨rfl, rfl⟩, inferInstance⟩
 intro c10
 omega
theorem AN (W0 : World) (R : List HP) (c : Cfg) (h : CfOk W0 c) (hr : rt c = true) (i : Int) (h0 : 0 ≤ i) (hi : i < c.nl.length) :
    aC Tryz.prog W0 96 [.agg (cj c).toArray, .int .i64 i] R (fun v B => v = .int .i64 (i9 c i) ∧ B = R) := by
 have hR := fH hr
 have hnd := hR.nd
 have hnn := hR.nn
 have hnb := l6 c c.gl.length
 rw [i9, if_pos ⟨hr, h0, hi⟩]
 refine aF func96 ntmps96 rfl rfl ?_
 refine ae (ah (am rfl (bL rfl) ?_))
 rintro _ _ ⟨b2, rfl, rfl⟩
 refine aa rfl (ai rfl) (ag (ab (ae (ae (ah (aa rfl (cu cm bS rfl rfl) ?_))))))
 refine am rfl (aS rJ rfl (nS W0 _ c h)) ?_
 rintro _ B_ ⟨rfl, hB_⟩
 obtain rfl := hB_.symm
 rw [hr]
 refine aa rfl (bN rfl) (aa rfl (ac rfl) ?_)
 refine bA rfl rfl rfl ?_ ?_
 intro g1_4
 exact absurd g1_4 (by decide)
 intro g1_4
 refine aa rfl (ac rfl) (ar rfl rfl (aa rfl (aY rfl rfl) (aa rfl (aJ rfl rfl) (aa rfl (ac rfl) ?_))))
 refine bA rfl rfl rfl ?_ ?_
 intro g1_8
 first | exact absurd g1_8 (by decide) | (exfalso; omega)
 intro g1_8
 refine aa rfl (ac rfl) (ar rfl rfl ?_)
 refine aa rfl (ao rfl bw rfl fg rfl (by first | exact Nat.zero_add _ | rfl)) ?_
 refine ar rfl rfl (aa rfl (ap fZ rfl (aA rfl)) ?_)
 refine ar rfl rfl (aa rfl (bq fv rfl) (ar rfl rfl (aa rfl (cF rfl rfl) (aa rfl (aJ rfl rfl) (ag (ab ?_))))))
 refine ax rfl ?_ ?_
 intro c1
 first | exact absurd c1 (by decide) | (exfalso; omega)
 intro c1
 refine aB (ab (ae ?_))
 refine cY [(b2, 0, _)] 9 cV rfl (aV aK) (fun hS => ?_)
 refine aj 0 rfl rfl (by kernel_rfl) (by kernel_rfl) (by kernel_rfl) rfl hS (cQ cm bS rfl (dA (k := 0) rfl) rfl) ?_
 refine aj 2 rfl rfl (by kernel_rfl) (by kernel_rfl) (by kernel_rfl) rfl hS (ao rfl bw rfl fg rfl (by first | exact Nat.zero_add _ | rfl)) ?_
 refine aj 3 rfl rfl (by kernel_rfl) (by kernel_rfl) (by kernel_rfl) rfl hS (ap fZ rfl (aG (k := 0) rfl rfl)) ?_
 refine aj 4 rfl rfl (by kernel_rfl) (by kernel_rfl) (by kernel_rfl) rfl hS (bq fv rfl) ?_
 refine aj 6 rfl rfl (by kernel_rfl) (by kernel_rfl) (by kernel_rfl) rfl hS (ac rfl) ?_
 refine bB 1 (by kernel_rfl) rfl rfl (aS mH rfl (l5 W0 _ c h.g (nV hR) hR.nn hR.g4)) rfl ?_; clear hS
 rintro _ B_ ⟨rfl, hB_⟩
 obtain rfl := hB_.symm
 refine ⟨(aV aK), fun hS => ?_⟩
 refine aj 5 rfl rfl (by kernel_rfl) (by kernel_rfl) (by kernel_rfl) rfl hS (dW rfl rfl (aW (by omega))) ?_
 refine aj 7 rfl rfl (by kernel_rfl) (by kernel_rfl) (by kernel_rfl) rfl hS (bC rfl rfl (by rw [aW (by omega)]; omega : IntKind.wrap .i64 (dq c c.gl.length - (c.nl.length : Int) + i) = d8 c c.gl.length + i)) ?_
 refine aj 8 rfl rfl (by kernel_rfl) (by kernel_rfl) (by kernel_rfl) rfl hS (ai rfl) ?_
 refine cg (by kernel_rfl) ?_; clear hS
 refine ab (av (au (.inl rfl) (.cons (ak rfl) .nil) ?_))
 exact ⟨_, ⟨rfl, rfl⟩, inferInstance⟩
end
end Go.Proofs.YtofillmoflhijaaGreat
