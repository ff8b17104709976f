/-
  Part 2 of the proof of AuditZero: rules, and walks of functions. Conditions: none.
-/
import Derived.Test.YtofillmoflhijaaGreatAuditZeroA
namespace Go.Proofs.YtofillmoflhijaaGreat
open Go.Proofs.Tryz
set_option linter.unusedSimpArgs false
set_option linter.unusedVariables false
set_option maxRecDepth 20000
set_option linter.defProp false
set_option synthInstance.maxSize 8192
set_option synthInstance.maxHeartbeats 2000000
variable {W0 : World} {R : List HP}
section
open Go.RowKit
@[reducible] def cW (x : Int × Bool) : List Value := [.int .i64 x.1, .bool x.2]
theorem ot (x : Int × Bool) : (cW x).length = 2 := rfl
@[reducible] def eD (n : Nat) : List Value := [.int .i64 (n : Int)]
theorem fV (n : Nat) : (eD n).length = 1 := rfl
def cP (p : Value × List Nat) : HP := osl 3 1 p.1 (p.2.flatMap eD)
@[reducible] def dv (ps : Nat) (sv : Value) (vs : List Value) : List Value := .pointer (some ⟨ps, 0, none⟩) :: sv :: vs
theorem ud (ps w : Nat) (sv v : Value) (vs : List Value) : (dv ps sv vs).set (2 + w * 1) v = dv ps sv (vs.set w v) := by
 rw [show 2 + w * 1 = w + 1 + 1 by omega]; rfl
abbrev e8 (w : Nat) : Nat → List Nat × List Value → HP := jr 420 3 1 eD (2 + w * 1)
def cn (pb : Nat) (x : Nat × Po) : HP := chk (fun C => ∃ a c vs Ls, vs.length = 16 ∧ LsOk x.2 Ls ∧ C = [pt pb (am (dv x.1 (.slice a x.2.length c) vs) 420), osl 422 2 (.slice a x.2.length c) (x.2.flatMap cW), kH 2 (bC ((vs.zip Ls).map cP))])
theorem zv {F : List HP → Prop} {R B : List HP} (h : ∀ C, F C → Ent (C ++ R) B) : Ent (chk F :: R) B := ⟨fun l hl => by
 obtain ⟨l1, l2, rfl, ⟨C, hC, hs⟩, h2⟩ := hl
 exact (h C hC).out _ (dX.append.2 ⟨l1, l2, rfl, hs, h2⟩)⟩
section
variable {P : Program} {W0 : World} {N : FSz} {K : Act → World → Prop} {e : bq} {A B R R1 R2 R3 : List HP} {pb ps w n : Nat} {po : Po} {f : FuncId} {args : List Value} {Post : Value → List HP → Prop}
theorem mw [hk : Tk cn pb A (ps, po) R] (h : ∀ a c vs Ls, vs.length = 16 → LsOk po Ls → aG W0 N K e (pt pb (am (dv ps (.slice a po.length c) vs) 420) :: osl 422 2 (.slice a po.length c) (po.flatMap cW) :: kH 2 (bC ((vs.zip Ls).map cP)) :: R)) : aG W0 N K e A :=
  eC (r := cn) (b := pb) (jm fun C hC => by obtain ⟨a, c, vs, Ls, h1, h2, rfl⟩ := hC; exact h a c vs Ls h1 h2)
theorem ue (h : ∀ a c vs Ls, vs.length = 16 → LsOk po Ls → ax P W0 f args (pt pb (am (dv ps (.slice a po.length c) vs) 420) :: osl 422 2 (.slice a po.length c) (po.flatMap cW) :: kH 2 (bC ((vs.zip Ls).map cP)) :: R) Post) : ax P W0 f args (cn pb (ps, po) :: R) Post :=
  nT fun C hC => by obtain ⟨a, c, vs, Ls, h1, h2, rfl⟩ := hC; exact h a c vs Ls h1 h2
theorem kd {a : Option Addr} {c : Nat} {vs xs : List Value} {Ls : List (List Nat)} {sv : Value} [h1 : Tk pt pb A (am (dv ps sv vs) 420) R1] [h2 : Tk (osl 422 2) sv R1 xs R2] [h3 : Tk kH 2 R2 (bC ((vs.zip Ls).map cP)) R3]
    (hs : sv = .slice a n c) (hv : vs.length = 16) (hL : LsOk po Ls) (hn : n = po.length) (hx : xs = po.flatMap cW) [k : Ent R3 B] : Ent A (cn pb (ps, po) :: B) := by
 subst hs; subst hn; subst hx
 exact (Ent.ofPerm (h1.perm.trans ((h2.perm.trans (h3.perm.cons _)).cons _))).trans ((Ent.cons (Ent.cons (Ent.cons k))).trans (eX (R := B) (C := [_, _, _]) ⟨a, c, vs, Ls, hv, hL, rfl⟩))
theorem qS {sv : Value} {vs : List Value} {Ls : List (List Nat)} (hw : w < 16) (hv : vs.length = 16) (hL : Ls.length = 16) :
    Ent (pt pb (am (dv ps sv vs) 420) :: kH 2 (bC ((vs.zip Ls).map cP)) :: R) (e8 w pb (Ls.getD w [], dv ps sv vs) :: kH 3 (bC (((vs.zip Ls).map cP).eraseIdx w)) :: R) := by
 have hlen : ((vs.zip Ls).map cP).length = 16 := by simp [hv, hL]
 have hg : ((vs.zip Ls).map cP)[w]'(by omega) = osl 3 1 (vs.getD w undef) ((Ls.getD w []).flatMap eD) := by
  simp [cP, List.getD, show w < vs.length by omega, show w < Ls.length by omega]
 have e2 := zq (L := (vs.zip Ls).map cP) (R := R) (i := w) (by omega)
 rw [hg] at e2
 refine (Ent.cons e2).trans ?_
 generalize hvw : vs.getD w undef = v
 have hvs : vs[w]? = some v := by rw [← hvw]; simp [List.getD, show w < vs.length by omega]
 refine ⟨fun l hl => ?_⟩
 obtain ⟨l1, l2, rfl, h1, l3, l4, rfl, h3, h4⟩ := hl
 have key : ∀ a c, v = .slice a (Ls.getD w []).length c → ∃ l' r, dX (e8 w pb (Ls.getD w [], dv ps sv vs) :: kH 3 (bC (((vs.zip Ls).map cP).eraseIdx w)) :: R) l' ∧ (l1 ++ (l3 ++ l4)).Perm (l' ++ r) := fun a c hva => by
  have hcs : (dv ps sv vs).set (2 + w * 1) (.slice a (Ls.getD w []).length c) = dv ps sv vs := by
   rw [← hva, ud, zu hvs]
  refine ⟨(l1 ++ l3) ++ l4, [], ⟨l1 ++ l3, l4, rfl, ⟨_, ⟨by simp [dv, hv]; omega, a, c, rfl⟩, ?_⟩, h4⟩, by simp⟩
  rw [hcs, ← hva]
  exact ⟨l1, l3, rfl, h1, l3, [], by simp, h3, rfl⟩
 rcases id h3 with ⟨k1, k2, _⟩ | ⟨g, n, cap, sp, k1, _, _, k4, _, _⟩
 have hl0 : (Ls.getD w []).length = 0 := by
  have := congrArg List.length k2
  rw [cV fV] at this; simpa using this
 exact key none 0 (by rw [k1, hl0])
 have hl0 : (Ls.getD w []).length = n := by rw [cV fV] at k4; omega
 exact key (some ⟨g, 0, none⟩) cap (by rw [k1, hl0])
theorem qT {a : Option Addr} {c : Nat} {sv : Value} {vs : List Value} {Ls : List (List Nat)} {l : List Nat} {po' : Po} (hw : w < 16) (hv : vs.length = 16) (hs : sv = .slice a n c) (hn : n = po'.length) (hL : Ls.length = 16) (hk : LsOk po' (Ls.set w l)) :
    Ent (e8 w pb (l, dv ps sv vs) :: osl 422 2 sv (po'.flatMap cW) :: kH 3 (bC (((vs.zip Ls).map cP).eraseIdx w)) :: R) (cn pb (ps, po') :: R) := by
 refine zv fun C hC => ?_
 obtain ⟨ho, a2, c2, rfl⟩ := hC
 have hcs : (dv ps sv vs).set (2 + w * 1) (.slice a2 l.length c2) = dv ps sv (vs.set w (.slice a2 l.length c2)) := ud ..
 dsimp only
 rw [hcs]
 have hlen : ((vs.zip Ls).map cP).length = 16 := by simp [hv, hL]
 have hset : ((vs.set w (.slice a2 l.length c2)).zip (Ls.set w l)).map cP = ((vs.zip Ls).map cP).set w (cP (.slice a2 l.length c2, l)) := by
  apply List.ext_getElem
  simp
  intro j h1 h2
  by_cases e : j = w
  subst e; simp
  have e' : ¬ w = j := fun h => e h.symm
  simp [List.getElem_set, e']
 have e2 : Ent (cP (.slice a2 l.length c2, l) :: kH 3 (bC (((vs.zip Ls).map cP).eraseIdx w)) :: R) (kH 2 (bC (((vs.set w (.slice a2 l.length c2)).zip (Ls.set w l)).map cP)) :: R) := by
  rw [hset]; exact zr (by omega)
 refine (Ent.ofPerm ((List.Perm.swap _ _ _).cons _)).trans ?_
 refine (Ent.cons (Ent.cons e2)).trans ?_
 exact kd (vs := vs.set w (.slice a2 l.length c2)) hs (by simpa using hv) hk hn rfl
end
theorem my (po : Po) (sp : List Value) (i j : Nat) (hi : i < po.length) (hj : j < 2) : (po.flatMap cW ++ sp)[i * 2 + j]? = (cW (cG po i))[j]? := by
 rw [jk ot po i j sp hi hj]; simp [cG, List.getD, hi]
theorem zw (po : Po) (sp : List Value) (i : Nat) (v : Int) (hi : i < po.length) : (po.flatMap cW ++ sp).set (i * 2 + 0) (.int .i64 v) = (po.set i (v, (cG po i).2)).flatMap cW ++ sp :=
  qk ot po i 0 _ _ sp hi (by decide) (by simp [cG, List.getD, hi, cW])
theorem uf (po : Po) (sp : List Value) (i : Nat) (v : Bool) (hi : i < po.length) : (po.flatMap cW ++ sp).set (i * 2 + 1) (.bool v) = (po.set i ((cG po i).1, v)).flatMap cW ++ sp :=
  qk ot po i 1 _ _ sp hi (by decide) (by simp [cG, List.getD, hi, cW])
theorem fW (po : Po) : (po.flatMap cW).length = po.length * 2 := cV ot po
abbrev ju (pb w : Nat) : Value := .pointer (some ⟨pb, 2 + w * 1, none⟩)
theorem ke {its : List Nat} {sp : List Value} {i : Nat} (hi : i < its.length) : (its.flatMap eD ++ sp)[i * 1]? = some (.int .i64 ((its.getD i default : Nat) : Int)) := by
 have := jk fV its i 0 sp hi (by decide)
 rw [Nat.add_zero] at this
 rw [this]; simp [eD, List.getD, hi]
theorem ou {its : List Nat} {sp : List Value} {i x : Nat} (hi : i < its.length) : (its.flatMap eD ++ sp).set (i * 1) (.int .i64 (x : Int)) = (its.set i x).flatMap eD ++ sp := by
 have := qk fV its i 0 (.int .i64 (x : Int)) x sp hi (by decide) (by simp [eD])
 rwa [Nat.add_zero] at this
theorem ov {its : List Nat} {sp : List Value} {i : Nat} (hi : i < its.length) : i * 1 + 1 ≤ (its.flatMap eD ++ sp).length := zd fV its sp i hi
theorem qU (W0 : World) (R : List HP) (pb w : Nat) (its : List Nat) (cs : List Value) :
    ax Tryz.prog W0 299 [ju pb w] (e8 w pb (its, cs) :: R) (fun v B => v = .int .i64 (its.length : Nat) ∧ B = e8 w pb (its, cs) :: R) := by
 refine qK fun a c ho => ?_
 refine aB func299 ntmps299 rfl rfl ?_
 refine aa (ae (a7 rfl (ag rfl) (ac (a8 (aa (ae (a7 rfl (ab rfl) (a7 rfl (aI rfl) ?_))))))))
 refine a7 rfl (ar rfl gI rfl ec rfl (by first | exact Nat.zero_add _ | rfl)) ?_
 refine a7 rfl (ap gJ rfl (az (gU ho))) ?_
 refine a7 rfl (aY dd rfl) (a7 rfl (ag rfl) (ac (a8 (ao (ak (.inl rfl) (.cons (aj rfl) .nil) ?_)))))
 exact ⟨_, ⟨rfl, rfl⟩, qL rfl rfl ho rfl⟩
theorem zx (W0 : World) (R : List HP) (pb w : Nat) (its : List Nat) (cs : List Value) (i k : Nat) (hi : i < its.length) (hk : k < its.length) :
    ax Tryz.prog W0 495 [ju pb w, .int .i64 i, .int .i64 k] (e8 w pb (its, cs) :: R) (fun v B => v = .bool (decide (Hp.us its i < Hp.us its k)) ∧ B = e8 w pb (its, cs) :: R) := by
 refine qM fV (by intro e; subst e; simp at hi) (by decide) fun g c sp ho h1 h2 h3 => ?_
 refine aB func495 ntmps495 rfl rfl ?_
 refine aa (ae (a7 rfl (ag rfl) (ac (a8 (aa ?_)))))
 refine di [(pb, 0, _), (g, 0, _)] 16 d4 rfl (aE (aE aH)) (fun hS => ?_)
 refine ai 0 rfl rfl (by kernel_rfl) (by kernel_rfl) (by kernel_rfl) rfl hS (ab rfl) ?_
 refine ai 1 rfl rfl (by kernel_rfl) (by kernel_rfl) (by kernel_rfl) rfl hS (aI rfl) ?_
 refine ai 2 rfl rfl (by kernel_rfl) (by kernel_rfl) (by kernel_rfl) rfl hS (ar rfl gI rfl ec rfl (by first | exact Nat.zero_add _ | rfl)) ?_
 refine ai 3 rfl rfl (by kernel_rfl) (by kernel_rfl) (by kernel_rfl) rfl hS (ap gJ rfl (aU (k := 0) rfl (gU ho))) ?_
 refine ai 4 rfl rfl (by kernel_rfl) (by kernel_rfl) (by kernel_rfl) rfl hS (ab rfl) ?_
 refine ai 5 rfl rfl (by kernel_rfl) (by kernel_rfl) (by kernel_rfl) rfl hS (bK dd aC rfl rfl rfl hi (by first | exact Nat.zero_add _ | rfl)) ?_
 refine ai 6 rfl rfl (by kernel_rfl) (by kernel_rfl) (by kernel_rfl) rfl hS (ap aM rfl (aU (k := 1) rfl (ke hi))) ?_
 refine ai 7 rfl rfl (by kernel_rfl) (by kernel_rfl) (by kernel_rfl) rfl hS (ab rfl) ?_
 refine ai 8 rfl rfl (by kernel_rfl) (by kernel_rfl) (by kernel_rfl) rfl hS (aI rfl) ?_
 refine ai 9 rfl rfl (by kernel_rfl) (by kernel_rfl) (by kernel_rfl) rfl hS (ar rfl gI rfl ec rfl (by first | exact Nat.zero_add _ | rfl)) ?_
 refine ai 10 rfl rfl (by kernel_rfl) (by kernel_rfl) (by kernel_rfl) rfl hS (ap gJ rfl (aU (k := 0) rfl (gU ho))) ?_
 refine ai 11 rfl rfl (by kernel_rfl) (by kernel_rfl) (by kernel_rfl) rfl hS (ab rfl) ?_
 refine ai 12 rfl rfl (by kernel_rfl) (by kernel_rfl) (by kernel_rfl) rfl hS (bK dd aC rfl rfl rfl hk (by first | exact Nat.zero_add _ | rfl)) ?_
 refine ai 13 rfl rfl (by kernel_rfl) (by kernel_rfl) (by kernel_rfl) rfl hS (ap aM rfl (aU (k := 1) rfl (ke hk))) ?_
 refine ai 14 rfl rfl (by kernel_rfl) (by kernel_rfl) (by kernel_rfl) rfl hS (aV rfl rfl) ?_
 refine ai 15 rfl rfl (by kernel_rfl) (by kernel_rfl) (by kernel_rfl) rfl hS (ag rfl) ?_
 refine cm (by kernel_rfl) ?_; clear hS
 refine a8 (ao (ak (.inl rfl) (.cons (aj rfl) .nil) ?_))
 exact ⟨_, ⟨rfl, rfl⟩, oi fV rfl rfl ho rfl h1 h2 h3⟩
theorem zy (W0 : World) (R : List HP) (pb w : Nat) (its : List Nat) (cs : List Value) (i k : Nat) (hi : i < its.length) (hk : k < its.length) :
    ax Tryz.prog W0 498 [ju pb w, .int .i64 i, .int .i64 k] (e8 w pb (its, cs) :: R) (fun v B => v = .tuple #[] ∧ B = e8 w pb (Hp.swapL its i k, cs) :: R) := by
 refine qM fV (by intro e; subst e; simp at hi) (by decide) fun g c sp ho h1 h2 h3 => ?_
 refine aB func498 ntmps498 rfl rfl ?_
 refine di [(pb, 0, _)] 28 d4 rfl (aE aH) (fun hS => ?_)
 refine ai 0 rfl rfl (by kernel_rfl) (by kernel_rfl) (by kernel_rfl) rfl hS (ab rfl) ?_
 refine ai 1 rfl rfl (by kernel_rfl) (by kernel_rfl) (by kernel_rfl) rfl hS (aI rfl) ?_
 refine ai 2 rfl rfl (by kernel_rfl) (by kernel_rfl) (by kernel_rfl) rfl hS (ar rfl gI rfl ec rfl (by first | exact Nat.zero_add _ | rfl)) ?_
 refine ai 3 rfl rfl (by kernel_rfl) (by kernel_rfl) (by kernel_rfl) rfl hS (ap gJ rfl (aU (k := 0) rfl (gU ho))) ?_
 refine ai 4 rfl rfl (by kernel_rfl) (by kernel_rfl) (by kernel_rfl) rfl hS (ab rfl) ?_
 refine ai 5 rfl rfl (by kernel_rfl) (by kernel_rfl) (by kernel_rfl) rfl hS (ab rfl) ?_
 refine ai 6 rfl rfl (by kernel_rfl) (by kernel_rfl) (by kernel_rfl) rfl hS (aI rfl) ?_
 refine ai 7 rfl rfl (by kernel_rfl) (by kernel_rfl) (by kernel_rfl) rfl hS (ar rfl gI rfl ec rfl (by first | exact Nat.zero_add _ | rfl)) ?_
 refine ai 8 rfl rfl (by kernel_rfl) (by kernel_rfl) (by kernel_rfl) rfl hS (ap gJ rfl (aU (k := 0) rfl (gU ho))) ?_
 refine ai 9 rfl rfl (by kernel_rfl) (by kernel_rfl) (by kernel_rfl) rfl hS (ab rfl) ?_
 refine ai 10 rfl rfl (by kernel_rfl) (by kernel_rfl) (by kernel_rfl) rfl hS (ab rfl) ?_
 refine ai 11 rfl rfl (by kernel_rfl) (by kernel_rfl) (by kernel_rfl) rfl hS (aI rfl) ?_
 refine ai 12 rfl rfl (by kernel_rfl) (by kernel_rfl) (by kernel_rfl) rfl hS (ar rfl gI rfl ec rfl (by first | exact Nat.zero_add _ | rfl)) ?_
 refine ai 13 rfl rfl (by kernel_rfl) (by kernel_rfl) (by kernel_rfl) rfl hS (ap gJ rfl (aU (k := 0) rfl (gU ho))) ?_
 refine ai 14 rfl rfl (by kernel_rfl) (by kernel_rfl) (by kernel_rfl) rfl hS (ab rfl) ?_
 refine ai 15 rfl rfl (by kernel_rfl) (by kernel_rfl) (by kernel_rfl) rfl hS (bK dd aC rfl rfl rfl hk (by first | exact Nat.zero_add _ | rfl)) ?_
 refine ai 17 rfl rfl (by kernel_rfl) (by kernel_rfl) (by kernel_rfl) rfl hS (ab rfl) ?_
 refine ai 18 rfl rfl (by kernel_rfl) (by kernel_rfl) (by kernel_rfl) rfl hS (aI rfl) ?_
 refine ai 19 rfl rfl (by kernel_rfl) (by kernel_rfl) (by kernel_rfl) rfl hS (ar rfl gI rfl ec rfl (by first | exact Nat.zero_add _ | rfl)) ?_
 refine ai 20 rfl rfl (by kernel_rfl) (by kernel_rfl) (by kernel_rfl) rfl hS (ap gJ rfl (aU (k := 0) rfl (gU ho))) ?_
 refine ai 21 rfl rfl (by kernel_rfl) (by kernel_rfl) (by kernel_rfl) rfl hS (ab rfl) ?_
 refine ai 22 rfl rfl (by kernel_rfl) (by kernel_rfl) (by kernel_rfl) rfl hS (bK dd aC rfl rfl rfl hi (by first | exact Nat.zero_add _ | rfl)) ?_
 refine gS (is := [16, 23]) (by kernel_rfl) rfl ⟨?_, ?_, trivial⟩
 skip
 refine dP rfl rfl (df (ap aM rfl (az (ke hk)))) rfl ?_; clear hS
 rintro _ _ ⟨rfl, rfl⟩
 refine ⟨(aE aH), fun hS => ?_⟩
 refine b0 23 (by kernel_rfl) rfl rfl (df (ap aM rfl (az (ke hi)))) rfl ?_; clear hS
 rintro _ _ ⟨rfl, rfl⟩
 refine ⟨(aE aH), fun hS => ?_⟩
 refine ai 24 rfl rfl (by kernel_rfl) (by kernel_rfl) (by kernel_rfl) rfl hS (bK dd aC rfl rfl rfl hi (by first | exact Nat.zero_add _ | rfl)) ?_
 refine b0 25 (by kernel_rfl) rfl rfl (ck aC rfl rfl rfl (ov hi) (ou hi)) rfl ?_; clear hS
 rintro _ _ rfl
 refine ⟨(aE aH), fun hS => ?_⟩
 refine ai 26 rfl rfl (by kernel_rfl) (by kernel_rfl) (by kernel_rfl) rfl hS (bK dd aC rfl rfl rfl hk (by first | exact Nat.zero_add _ | rfl)) ?_
 refine b0 27 (by kernel_rfl) rfl rfl (ck aC rfl rfl rfl (ov (by simpa using hk)) (ou (by simpa using hk))) rfl ?_; clear hS
 rintro _ _ rfl
 refine ⟨(aE aH), fun hS => ?_⟩
 refine cm (by kernel_rfl) ?_; clear hS
 refine ak (.inr rfl) .nil ?_
 exact ⟨_, ⟨rfl, rfl⟩, oi fV rfl rfl ho (by simp [Hp.swapL]) (by simpa [Hp.swapL] using h1) h2 (by rw [List.length_append, cV fV] at h3 ⊢; simpa [Hp.swapL] using h3)⟩
 skip
 refine dP rfl rfl (df (ap aM rfl (az (ke hi)))) rfl ?_; clear hS
 rintro _ _ ⟨rfl, rfl⟩
 refine ⟨(aE aH), fun hS => ?_⟩
 refine b0 16 (by kernel_rfl) rfl rfl (df (ap aM rfl (az (ke hk)))) rfl ?_; clear hS
 rintro _ _ ⟨rfl, rfl⟩
 refine ⟨(aE aH), fun hS => ?_⟩
 refine ai 24 rfl rfl (by kernel_rfl) (by kernel_rfl) (by kernel_rfl) rfl hS (bK dd aC rfl rfl rfl hi (by first | exact Nat.zero_add _ | rfl)) ?_
 refine b0 25 (by kernel_rfl) rfl rfl (ck aC rfl rfl rfl (ov hi) (ou hi)) rfl ?_; clear hS
 rintro _ _ rfl
 refine ⟨(aE aH), fun hS => ?_⟩
 refine ai 26 rfl rfl (by kernel_rfl) (by kernel_rfl) (by kernel_rfl) rfl hS (bK dd aC rfl rfl rfl hk (by first | exact Nat.zero_add _ | rfl)) ?_
 refine b0 27 (by kernel_rfl) rfl rfl (ck aC rfl rfl rfl (ov (by simpa using hk)) (ou (by simpa using hk))) rfl ?_; clear hS
 rintro _ _ rfl
 refine ⟨(aE aH), fun hS => ?_⟩
 refine cm (by kernel_rfl) ?_; clear hS
 refine ak (.inr rfl) .nil ?_
 exact ⟨_, ⟨rfl, rfl⟩, oi fV rfl rfl ho (by simp [Hp.swapL]) (by simpa [Hp.swapL] using h1) h2 (by rw [List.length_append, cV fV] at h3 ⊢; simpa [Hp.swapL] using h3)⟩
theorem zA (W0 : World) (R : List HP) (pb w : Nat) (its : List Nat) (x : Nat) (cs : List Value) :
    ax Tryz.prog W0 496 [ju pb w] (e8 w pb (its ++ [x], cs) :: R) (fun v B => v = .iface 3 (.int .i64 (x : Int)) ∧ B = e8 w pb (its, cs) :: R) := by
 refine qM fV (by simp) (by decide) fun g c sp ho h1 h2 h3 => ?_
 have hl : (its ++ [x]).length = its.length + 1 := by simp
 rw [hl] at h1 ⊢
 have hg : (its ++ [x]).getD its.length default = x := by simp [List.getD]
 have he : (its ++ [x]).flatMap eD ++ sp = its.flatMap eD ++ (eD x ++ sp) := by simp
 have hget := ke (its := its ++ [x]) (sp := sp) (i := its.length) (by omega)
 rw [hg] at hget
 refine aB func496 ntmps496 rfl rfl ?_
 refine aa (ae (a7 rfl (ag rfl) (ac (a8 (aa (ae (a7 rfl (ab rfl) (a7 rfl (aI rfl) ?_))))))))
 refine a7 rfl (ar rfl gI rfl ec rfl (by first | exact Nat.zero_add _ | rfl)) ?_
 refine a7 rfl (ap gJ rfl (az (gU ho))) ?_
 refine a7 rfl (aY dd rfl) ?_
 refine a7 rfl (d7 rfl rfl (by rw [aT (by simp only [maxLen] at h2; omega)]; omega : IntKind.wrap .i64 (((its.length + 1 : Nat) : Int) - 1) = ((its.length : Nat) : Int))) ?_
 refine a7 rfl (ag rfl) (ac (a8 (aa (ae (a7 rfl (ab rfl) (a7 rfl (aI rfl) ?_))))))
 refine a7 rfl (ar rfl gI rfl ec rfl (by first | exact Nat.zero_add _ | rfl)) ?_
 refine a7 rfl (ap gJ rfl (az (gU ho))) ?_
 refine a7 rfl (ab rfl) ?_
 refine a7 rfl (bK dd aC rfl rfl rfl (by omega) (by first | exact Nat.zero_add _ | rfl)) ?_
 refine a7 rfl (ap aM rfl (az hget)) ?_
 refine a7 rfl (ag rfl) (ac (a8 (aa (ae (a7 rfl (ab rfl) (a7 rfl (ab rfl) (a7 rfl (aI rfl) ?_)))))))
 refine a7 rfl (ar rfl gI rfl ec rfl (by first | exact Nat.zero_add _ | rfl)) ?_
 refine a7 rfl (ap gJ rfl (az (gU ho))) ?_
 refine a7 rfl (ab rfl) ?_
 refine a7 rfl (l5 dd aC rfl rfl rfl (by omega)) ?_
 refine a7 rfl (aI rfl) ?_
 refine a7 rfl (ar rfl gI rfl ec rfl (by first | exact Nat.zero_add _ | rfl)) ?_
 refine bc (ck ec rfl rfl rfl (by rw [List.length_set]; exact ho) set_set) ?_
 rintro _ _ rfl
 refine ac (a8 (aa (ae (a7 rfl (ab rfl) ?_))))
 refine a7 rfl (kZ dF (fun _ h => by cases h) rfl) ?_
 refine a7 rfl (ag rfl) (ac (a8 (ao (ak (.inl rfl) (.cons (aj rfl) .nil) ?_))))
 rw [he]
 exact ⟨_, ⟨rfl, rfl⟩, oi (sp := eD x ++ sp) fV rfl rfl ho rfl (by omega) h2 (by rw [← he]; exact h3)⟩
theorem zB (W0 : World) (R : List HP) (pb w : Nat) (its : List Nat) (x : Nat) (cs : List Value) (hn : its.length < 1000) :
    ax Tryz.prog W0 497 [ju pb w, .iface 3 (.int .i64 (x : Int))] (e8 w pb (its, cs) :: R) (fun v B => v = .tuple #[] ∧ B = e8 w pb (its ++ [x], cs) :: R) := by
 refine qK fun a c ho => ?_
 have he : its.flatMap eD ++ [Value.int .i64 (x : Int)] = (its ++ [x]).flatMap eD := by simp
 refine aB func497 ntmps497 rfl rfl ?_
 refine di [] 12 d4 rfl aH (fun hS => ?_)
 refine ai 0 rfl rfl (by kernel_rfl) (by kernel_rfl) (by kernel_rfl) rfl hS (ab rfl) ?_
 refine ai 1 rfl rfl (by kernel_rfl) (by kernel_rfl) (by kernel_rfl) rfl hS (ab rfl) ?_
 refine ai 2 rfl rfl (by kernel_rfl) (by kernel_rfl) (by kernel_rfl) rfl hS (aI rfl) ?_
 refine ai 3 rfl rfl (by kernel_rfl) (by kernel_rfl) (by kernel_rfl) rfl hS (ar rfl gI rfl ec rfl (by first | exact Nat.zero_add _ | rfl)) ?_
 refine ai 5 rfl rfl (by kernel_rfl) (by kernel_rfl) (by kernel_rfl) rfl hS (ab rfl) ?_
 refine ai 6 rfl rfl (by kernel_rfl) (by kernel_rfl) (by kernel_rfl) rfl hS (nR dF (fun _ h => by cases h) rfl) ?_
 refine gS (is := [4, 7]) (by kernel_rfl) rfl ⟨?_, ?_, trivial⟩
 skip
 refine dP rfl rfl (df (ap gJ rfl (az (gU ho)))) rfl ?_; clear hS
 rintro _ _ ⟨rfl, rfl⟩
 refine ⟨aH, fun hS => ?_⟩
 refine b0 7 (by kernel_rfl) rfl rfl (jg dd aC f9 rfl rfl rfl rfl rfl (by decide) (by decide)) rfl ?_; clear hS
 rintro _ _ ⟨b1, rfl, rfl⟩
 refine ⟨aH, fun hS => ?_⟩
 refine b0 8 (by kernel_rfl) rfl rfl (eg (sz := 1) (by_ := 8) (info := Tryz.t3) dd (by kernel_rfl) rfl rfl rfl rfl (by decide) rfl rfl dK rfl rfl (by simp only [maxLen]; omega) (by omega)) rfl ?_; clear hS
 rintro _ _ ⟨a1, c1, rfl, rfl⟩
 refine ⟨aH, fun hS => ?_⟩
 refine ai 9 rfl rfl (by kernel_rfl) (by kernel_rfl) (by kernel_rfl) rfl hS (aI rfl) ?_
 refine ai 10 rfl rfl (by kernel_rfl) (by kernel_rfl) (by kernel_rfl) rfl hS (ar rfl gI rfl ec rfl (by first | exact Nat.zero_add _ | rfl)) ?_
 refine b0 11 (by kernel_rfl) rfl rfl (ck ec rfl rfl rfl (by rw [List.length_set]; exact ho) set_set) rfl ?_; clear hS
 rintro _ _ rfl
 refine ⟨aH, fun hS => ?_⟩
 refine cm (by kernel_rfl) ?_; clear hS
 refine ak (.inr rfl) .nil ?_
 exact ⟨_, ⟨rfl, rfl⟩, qL (its := its ++ [x]) he rfl ho (by simp)⟩
 skip
 refine dP rfl rfl (jg dd aC f9 rfl rfl rfl rfl rfl (by decide) (by decide)) rfl ?_; clear hS
 rintro _ _ ⟨b1, rfl, rfl⟩
 refine ⟨aH, fun hS => ?_⟩
 refine b0 4 (by kernel_rfl) rfl rfl (df (ap gJ rfl (az (gU ho)))) rfl ?_; clear hS
 rintro _ _ ⟨rfl, rfl⟩
 refine ⟨aH, fun hS => ?_⟩
 refine b0 8 (by kernel_rfl) rfl rfl (eg (sz := 1) (by_ := 8) (info := Tryz.t3) dd (by kernel_rfl) rfl rfl rfl rfl (by decide) rfl rfl dK rfl rfl (by simp only [maxLen]; omega) (by omega)) rfl ?_; clear hS
 rintro _ _ ⟨a1, c1, rfl, rfl⟩
 refine ⟨aH, fun hS => ?_⟩
 refine ai 9 rfl rfl (by kernel_rfl) (by kernel_rfl) (by kernel_rfl) rfl hS (aI rfl) ?_
 refine ai 10 rfl rfl (by kernel_rfl) (by kernel_rfl) (by kernel_rfl) rfl hS (ar rfl gI rfl ec rfl (by first | exact Nat.zero_add _ | rfl)) ?_
 refine b0 11 (by kernel_rfl) rfl rfl (ck ec rfl rfl rfl (by rw [List.length_set]; exact ho) set_set) rfl ?_; clear hS
 rintro _ _ rfl
 refine ⟨aH, fun hS => ?_⟩
 refine cm (by kernel_rfl) ?_; clear hS
 refine ak (.inr rfl) .nil ?_
 exact ⟨_, ⟨rfl, rfl⟩, qL (its := its ++ [x]) he rfl ho (by simp)⟩
section
variable (w : World) (a : Addr)
theorem zC : (method (Tryz.prog.types.size + Made.depth) 454 (.pointer (some a)) "Len").run Tryz.prog w = .ok (299, .pointer (some a)) w := by kernel_rfl
theorem zE : (method (Tryz.prog.types.size + Made.depth) 454 (.pointer (some a)) "Less").run Tryz.prog w = .ok (495, .pointer (some a)) w := by kernel_rfl
theorem zF : (method (Tryz.prog.types.size + Made.depth) 454 (.pointer (some a)) "Swap").run Tryz.prog w = .ok (498, .pointer (some a)) w := by kernel_rfl
theorem zG : (method (Tryz.prog.types.size + Made.depth) 454 (.pointer (some a)) "Push").run Tryz.prog w = .ok (497, .pointer (some a)) w := by kernel_rfl
theorem zH : (method (Tryz.prog.types.size + Made.depth) 454 (.pointer (some a)) "Pop").run Tryz.prog w = .ok (496, .pointer (some a)) w := by kernel_rfl
end
def ug (W0 : World) (pb w : Nat) (cs : List Value) : HpO W0 Nat where
  T := 454
  p := ju pb w
  el := fun x => .iface 3 (.int .i64 (x : Int))
  H := fun l => e8 w pb (l, cs)
  fL := 299
  fE := 495
  fS := 498
  fU := 497
  fO := 496
  mL := fun u => zC u _
  mE := fun u => zE u _
  mS := fun u => zF u _
  mU := fun u => zG u _
  mO := fun u => zH u _
  cL := wX
  cE := call495
  cS := call498
  cU := call497
  cO := call496
  sL := fun R l => qU W0 R pb w l cs
  sE := fun R l i j hi hj => zx W0 R pb w l cs i j hi hj
  sS := fun R l i j hi hj => zy W0 R pb w l cs i j hi hj
  sU := fun R l x hl => zB W0 R pb w l x cs hl
  sO := fun R l x => zA W0 R pb w l x cs
theorem zI (W0 : World) (R : List HP) (pb w : Nat) (its : List Nat) (x : Nat) (cs : List Value) (hN : its.length < 900) (hh : Hp.Heap its its.length) :
    ax Tryz.prog W0 176 [.iface 454 (ju pb w), .iface 3 (.int .i64 (x : Int))] (e8 w pb (its, cs) :: R) (fun v B => v = .tuple #[] ∧ ∃ its', B = e8 w pb (its', cs) :: R ∧ its'.Perm (its ++ [x]) ∧ Hp.Heap its' its'.length) :=
  Hp.heapPush_spec (ug W0 pb w cs) R its x hN hh
theorem zJ (W0 : World) (R : List HP) (pb w : Nat) (its : List Nat) (cs : List Value) (hN : its.length < 900) (h0 : its ≠ []) (hh : Hp.Heap its its.length) :
    ax Tryz.prog W0 300 [.iface 454 (ju pb w)] (e8 w pb (its, cs) :: R) (fun v B => ∃ x its', v = .iface 3 (.int .i64 ((x : Nat) : Int)) ∧ B = e8 w pb (its', cs) :: R ∧ (its' ++ [x]).Perm its ∧ Hp.Heap its' its'.length ∧ ∀ y ∈ its, (x : Int) ≤ (y : Int)) :=
  Hp.heapPop_spec (ug W0 pb w cs) R its hN h0 hh
def ow (x : Prt) : Nat := if x.gu = -1 then 64 else 4
def li (ps : List Prt) : Prop := ps.length ≤ 8 ∧ ∀ x ∈ ps, x.l.length ≤ ow x
theorem li.at_ {ps : List Prt} (h : li ps) {i : Nat} (hi : i < ps.length) : (ps.getD i default).l.length ≤ ow (ps.getD i default) := by
 rw [show ps.getD i default = ps[i] by simp [List.getD, hi]]; exact h.2 _ (List.getElem_mem hi)
theorem li.set {ps : List Prt} (h : li ps) {i : Nat} {x : Prt} (hx : x.l.length ≤ ow x) : li (ps.set i x) := ⟨by simpa using h.1, fun y hy => by
 rcases List.mem_or_eq_of_mem_set hy with q | q
 exact h.2 y q
 rw [q]; exact hx⟩
abbrev iZ := Int × Int
@[reducible] def zK (x : iZ) : List Value := [.int .i64 x.1, .int .i64 x.2]
def fi (l : List iZ) : List Prt := l.map fun x => ⟨x.1, x.2, []⟩
theorem uh (l : List iZ) : (fi l).length = l.length := by simp [fi]
def cX : Value := .slice none 0 0
theorem ui {R : List HP} : ∀ l : List iZ, Ent R (kH 2 (bC (((List.replicate l.length cX).zip (fi l)).map iY)) :: R)
 | [] => gN (A := [])
 | x :: l => by
  have ih := ui (R := R) l
  refine ih.trans ?_
  refine (iS (A := ((List.replicate l.length cX).zip (fi l)).map iY) (R := R)).trans ?_
  refine (dZ (E := 9) (sz := 1) (B := ((List.replicate l.length cX).zip (fi l)).map iY ++ R)).trans ?_
  exact gN (A := iY (cX, ⟨x.1, x.2, []⟩) :: ((List.replicate l.length cX).zip (fi l)).map iY) (R := R)
theorem zL (l : List iZ) : ((List.replicate l.length cX).zip (fi l)).flatMap mu = l.flatMap fun x => [.int .i64 x.1, .int .i64 x.2, cX] := by
 induction l with
 | nil => rfl
 | cons x l ih =>
  rw [List.flatMap_cons, ← ih]
  rfl
theorem zM (l : List iZ) (a : Option Addr) (n c : Nat) (hln : l.length = n) (hn : n ≤ 8) (hs : bU (bj W0 R) a 2 zK l) (hlab : ∀ x ∈ l, e5 x.1 = true) :
    ax Tryz.prog W0 50 [.slice a n c] R (fun v B => ∃ p, v = .tuple #[.pointer (some ⟨p, 0, none⟩), .int .i64 0] ∧ B = ik p (fi l) :: R) := by
 subst hln
 refine aB func50 ntmps50 rfl rfl ?_
 refine aa (ae (a7 rfl (ag rfl) (a7 rfl (ag rfl) (ac (a8 (aa (aa (ae (a7 rfl (ab rfl) (a7 rfl (aY jL rfl) (a7 rfl (cA rfl rfl) (ac (a8 ?_)))))))))))))
 refine au rfl ?_ ?_
 intro c1
 omega
 intro c1
 refine aA (a8 (aa (ae (a7 rfl (cq pF zeroValue267 (aK lS (aK cy cp)) (bB rfl cy rfl rfl (Nat.le_of_ble_eq_true rfl) SetL.eq co)) ?_))))
 refine ah rfl (bL rfl) ?_
 rintro _ _ ⟨p, rfl, rfl⟩
 refine a7 rfl (ag rfl) (ac (a8 (aa (aa (ae (a7 rfl (ab rfl) (a7 rfl (aY jL rfl) (a7 rfl (ab rfl) (ac (a8 (aP ?_)))))))))))
 refine bX (fun X : Nat × Option Addr × Nat => X.1 ≤ l.length) (fun X => [(4, .pointer (some ⟨p, 0, none⟩)), (12, .slice a l.length c), (13, .int .i64 (l.length : Nat)), (14, .int .i64 X.1)]) (fun X => pt p (am [.slice X.2.1 X.1 X.2.2, .bool true] 267) :: osl 270 3 (.slice X.2.1 X.1 X.2.2) ((l.take X.1).flatMap fun x => [.int .i64 x.1, .int .i64 x.2, cX]) :: R) (fun X => l.length - X.1) (0, none, 0) ?_ ?_ ?_ ?_
 exact Nat.zero_le _
 · repeat (first | exact aQ | refine aO rfl ?_)
 exact (Ent.cons (dZ (E := 270) (sz := 3)))
 intro ⟨i, a2, c2⟩ hi
 dsimp only at hi ⊢
 refine aa (ae (a7 rfl (aV rfl rfl) (ac (a8 (aa ?_)))))
 refine au rfl ?_ ?_
 intro c5
 have hi1 : i < l.length := by omega
 obtain ⟨g, o, rfl, hc⟩ := hs.at_ hi1
 have hlb := hlab _ (List.getElem_mem hi1)
 have htk : l.take (i + 1) = l.take i ++ [l[i]] := List.take_succ_eq_append_getElem hi1
 refine aA (a8 (aa (aP (aa (ae ?_)))))
 refine a7 rfl (bK jL i5 rfl rfl rfl hi1 (by first | exact Nat.zero_add _ | rfl)) ?_
 refine a7 rfl (bN sd i5 rfl hc.weak rfl) ?_
 refine ah rfl (cH wY) ?_
 rintro _ _ ⟨bx, rfl, rfl⟩
 refine bc (cD i5 rfl rfl rfl rfl rfl) ?_
 rintro _ _ rfl
 refine ac (a8 (aa (aa (ae ?_))))
 refine a7 rfl (ar rfl kD rfl aC rfl (by first | exact Nat.zero_add _ | rfl)) ?_
 refine a7 rfl (ap aM rfl (az rfl)) ?_
 refine ah rfl (aS call126 rfl (u6 l[i].1)) ?_
 rintro _ B_ ⟨m, rfl, hm, hB_⟩
 obtain rfl := hB_.symm
 rw [hlb] at hm
 have hm0 : ¬ m < 0 := by simpa using hm
 refine a7 rfl (aV rfl rfl) (ac (a8 ?_))
 refine au rfl ?_ ?_
 intro c7
 exact absurd c7 hm0
 intro c7
 refine aA (a8 ?_)
 refine di [(bx, 0, _)] 12 d4 rfl (aE aH) (fun hS => ?_)
 refine ai 0 rfl rfl (by kernel_rfl) (by kernel_rfl) (by kernel_rfl) rfl hS (ab rfl) ?_
 refine ai 1 rfl rfl (by kernel_rfl) (by kernel_rfl) (by kernel_rfl) rfl hS (ab rfl) ?_
 refine ai 2 rfl rfl (by kernel_rfl) (by kernel_rfl) (by kernel_rfl) rfl hS (aI rfl) ?_
 refine ai 3 rfl rfl (by kernel_rfl) (by kernel_rfl) (by kernel_rfl) rfl hS (ar rfl pF rfl lS rfl (by first | exact Nat.zero_add _ | rfl)) ?_
 refine ai 5 rfl rfl (by kernel_rfl) (by kernel_rfl) (by kernel_rfl) rfl hS (bN sd i5 rfl (ee (k := 0) rfl) rfl) ?_
 refine ai 6 rfl rfl (by kernel_rfl) (by kernel_rfl) (by kernel_rfl) rfl hS (cq underlying270 wZ (aK i5 (aK x0 cp)) (jf rfl i5 rfl rfl (Nat.le_of_ble_eq_true rfl) SetRL.eq co)) ?_
 refine gS (is := [4, 7]) (by kernel_rfl) rfl ⟨?_, ?_, trivial⟩
 skip
 refine dP rfl rfl (df (ap x9 rfl (az rfl))) rfl ?_; clear hS
 rintro _ _ ⟨rfl, rfl⟩
 refine ⟨(aE aH), fun hS => ?_⟩
 refine b0 7 (by kernel_rfl) rfl rfl (fM pG sizeOf270 wZ rfl (eB rfl rfl fK) rfl (by decide) (by decide) (by decide)) rfl ?_; clear hS
 rintro _ _ ⟨b3, rfl, rfl⟩
 refine ⟨(aE aH), fun hS => ?_⟩
 refine b0 8 (by kernel_rfl) rfl rfl (eg (sz := 3) (by_ := 40) (info := Tryz.t270) pG (by kernel_rfl) rfl rfl rfl rfl (by decide) rfl rfl dK rfl rfl (by simp only [maxLen]; omega) (by omega)) rfl ?_; clear hS
 rintro _ _ ⟨a3, c3, rfl, rfl⟩
 refine ⟨(aE aH), fun hS => ?_⟩
 refine ai 9 rfl rfl (by kernel_rfl) (by kernel_rfl) (by kernel_rfl) rfl hS (aI rfl) ?_
 refine ai 10 rfl rfl (by kernel_rfl) (by kernel_rfl) (by kernel_rfl) rfl hS (ar rfl pF rfl lS rfl (by first | exact Nat.zero_add _ | rfl)) ?_
 refine b0 11 (by kernel_rfl) rfl rfl (ck lS rfl rfl rfl (Nat.le_of_ble_eq_true rfl) SetL.eq) rfl ?_; clear hS
 rintro _ _ rfl
 refine ⟨(aE aH), fun hS => ?_⟩
 refine cm (by kernel_rfl) ?_; clear hS
 refine bw (a8 (ae ?_))
 refine a7 rfl (bz rfl rfl (by first | exact aT (by omega) | rfl)) ?_
 refine a7 rfl (ab rfl) (ac (a8 ?_))
 refine cg (i + 1, a3, c3) ?_ ?_ ?_ ?_
 omega
 omega
 · repeat (first | exact aQ | refine aO rfl ?_)
 dsimp only
 rw [htk, List.flatMap_append]
 show Ent _ (pt p (am [.slice a3 (i + 1) c3, .bool true] 267) :: osl 270 3 (.slice a3 (i + 1) c3) (((l.take i).flatMap fun x => [.int .i64 x.1, .int .i64 x.2, cX]) ++ [[.int .i64 l[i].1, .int .i64 l[i].2, .slice none 0 0]].flatten) :: R)
 exact inferInstance
 skip
 refine dP rfl rfl (fM pG sizeOf270 wZ rfl (eB rfl rfl fK) rfl (by decide) (by decide) (by decide)) rfl ?_; clear hS
 rintro _ _ ⟨b3, rfl, rfl⟩
 refine ⟨(aE aH), fun hS => ?_⟩
 refine b0 4 (by kernel_rfl) rfl rfl (df (ap x9 rfl (az rfl))) rfl ?_; clear hS
 rintro _ _ ⟨rfl, rfl⟩
 refine ⟨(aE aH), fun hS => ?_⟩
 refine b0 8 (by kernel_rfl) rfl rfl (eg (sz := 3) (by_ := 40) (info := Tryz.t270) pG (by kernel_rfl) rfl rfl rfl rfl (by decide) rfl rfl dK rfl rfl (by simp only [maxLen]; omega) (by omega)) rfl ?_; clear hS
 rintro _ _ ⟨a3, c3, rfl, rfl⟩
 refine ⟨(aE aH), fun hS => ?_⟩
 refine ai 9 rfl rfl (by kernel_rfl) (by kernel_rfl) (by kernel_rfl) rfl hS (aI rfl) ?_
 refine ai 10 rfl rfl (by kernel_rfl) (by kernel_rfl) (by kernel_rfl) rfl hS (ar rfl pF rfl lS rfl (by first | exact Nat.zero_add _ | rfl)) ?_
 refine b0 11 (by kernel_rfl) rfl rfl (ck lS rfl rfl rfl (Nat.le_of_ble_eq_true rfl) SetL.eq) rfl ?_; clear hS
 rintro _ _ rfl
 refine ⟨(aE aH), fun hS => ?_⟩
 refine cm (by kernel_rfl) ?_; clear hS
 refine bw (a8 (ae ?_))
 refine a7 rfl (bz rfl rfl (by first | exact aT (by omega) | rfl)) ?_
 refine a7 rfl (ab rfl) (ac (a8 ?_))
 refine cg (i + 1, a3, c3) ?_ ?_ ?_ ?_
 omega
 omega
 · repeat (first | exact aQ | refine aO rfl ?_)
 dsimp only
 rw [htk, List.flatMap_append]
 show Ent _ (pt p (am [.slice a3 (i + 1) c3, .bool true] 267) :: osl 270 3 (.slice a3 (i + 1) c3) (((l.take i).flatMap fun x => [.int .i64 x.1, .int .i64 x.2, cX]) ++ [[.int .i64 l[i].1, .int .i64 l[i].2, .slice none 0 0]].flatten) :: R)
 exact inferInstance
 intro c5
 refine bF (aR (aR (bH (a8 (aa (ae (a7 rfl (ab rfl) (a7 rfl (ag rfl) (a7 rfl (ag rfl) (ac (a8 (ao (ak (.inl rfl) (.cons (aj rfl) (.cons (aj rfl) .nil)) ?_)))))))))))))
 obtain rfl : i = l.length := by omega
 rw [List.take_of_length_le (Nat.le_refl _), ← zL l]
 refine ⟨_, ⟨p, rfl, rfl⟩, ?_⟩
 exact (Ent.cons (Ent.cons (ui (R := R) l))).trans (uc (by rw [List.length_replicate, uh]) (uh l).symm)
theorem zN (W0 : World) (R : List HP) (ps : Nat) (fr : List aZ) (f : Nat) (hf : f < fr.length) :
    ax Tryz.prog W0 339 [.pointer (some ⟨ps, 0, none⟩), .int .i64 f] (bP ps fr :: R) (fun v B => v = .int .i64 0 ∧ B = bP ps (fr.set f bQ) :: R) := by
 have hi : dA fr.length f = true := by simp only [dA, decide_eq_true_eq]; omega
 refine aB func339 ntmps339 rfl rfl ?_
 refine aa (ae (a7 rfl (ag rfl) (ac (a8 (aa (aa (ae (a7 rfl (ab rfl) (a7 rfl (ab rfl) (ah rfl (aF pC rfl (md W0 _ ps fr f)) ?_))))))))))
 rintro _ B_ ⟨rfl, hB_⟩
 obtain rfl := hB_.symm
 refine a7 rfl (ag rfl) (ac (a8 (aa (ae (a7 rfl (ab rfl) (a7 rfl (bT rfl rfl) (ac (a8 ?_))))))))
 refine au rfl ?_ ?_
 intro c2
 exact absurd c2 (by simp [hi])
 intro c2
 refine aA (a8 (aa ?_))
 refine l9 (ps := ps) fun g => ?_
 refine ae (a7 rfl (ab rfl) (a7 rfl (aI rfl) ?_))
 refine a7 rfl (ar rfl jI rfl jJ rfl (by first | exact Nat.zero_add _ | rfl)) ?_
 refine a7 rfl (ap lQ rfl (az rfl)) ?_
 refine a7 rfl (ab rfl) (a7 rfl (u2 nf g8 Ey rfl) ?_)
 refine a7 rfl (bK kC lR rfl rfl rfl hf (by first | exact Nat.zero_add _ | rfl)) ?_
 refine bc (fy lR rfl rfl rfl rfl (by rw [tJ]; omega) (tI (y := bQ) hf rfl)) ?_
 rintro _ _ rfl
 refine ac (a8 (aa (ae (a7 rfl (ag rfl) (ac (a8 (ao (ak (.inl rfl) (.cons (aj rfl) .nil) ?_))))))))
 exact ⟨_, ⟨rfl, rfl⟩, iC rfl (by simp)⟩
theorem lj (W0 : World) (R : List HP) (pb ps : Nat) (po : Po) (h0 : 0 < po.length) :
    ax Tryz.prog W0 257 [.pointer (some ⟨pb, 0, none⟩)] (cn pb (ps, po) :: R) (fun v B => v = .bool false ∧ B = cn pb (ps, po) :: R) := by
 refine ue fun a c vs Ls hv hL => ?_
 refine aB func257 ntmps257 rfl rfl ?_
 refine aa (ae (a7 rfl (ag rfl) (ac (a8 (aa (ae (a7 rfl (ab rfl) (a7 rfl (dx Ez rfl rfl) (a7 rfl (ab rfl) ?_)))))))))
 refine bJ rfl rfl rfl ?_ ?_
 intro g1_3
 cases g1_3
 intro g1_3
 refine a7 rfl (ab rfl) (av rfl rfl (a7 rfl (aI rfl) (av rfl rfl ?_)))
 refine a7 rfl (ar rfl fa rfl gK rfl (by first | exact Nat.zero_add _ | rfl)) ?_
 refine av rfl rfl (a7 rfl (ap iO rfl (az rfl)) ?_)
 refine av rfl rfl (a7 rfl (aY it rfl) (av rfl rfl (a7 rfl (cu rfl rfl) (a7 rfl (aX rfl rfl) (a7 rfl (ag rfl) (ac (a8 (ao (ak (.inl rfl) (.cons (aj rfl) .nil) ?_)))))))))
 exact ⟨_, ⟨by simp [ct, show po ≠ [] from fun e => by subst e; simp at h0], rfl⟩, kd rfl hv hL rfl rfl⟩
theorem oy (W0 : World) (R : List HP) (pb ps : Nat) (po : Po) (f : Int) :
    ax Tryz.prog W0 258 [.pointer (some ⟨pb, 0, none⟩), .int .i64 f] (cn pb (ps, po) :: R) (fun v B => v = .bool (dA po.length f) ∧ B = cn pb (ps, po) :: R) := by
 refine ue fun a c vs Ls hv hL => ?_
 refine aB func258 ntmps258 rfl rfl ?_
 refine aa (ae (a7 rfl (ag rfl) (ac (a8 (aa (ae (a7 rfl (ab rfl) (a7 rfl (dr rfl rfl) (a7 rfl (ab rfl) ?_)))))))))
 refine dh rfl rfl rfl ?_ ?_
 intro g1_3
 refine a7 rfl (ab rfl) (av rfl rfl (a7 rfl (ab rfl) (av rfl rfl (a7 rfl (aI rfl) (av rfl rfl ?_)))))
 refine a7 rfl (ar rfl fa rfl gK rfl (by first | exact Nat.zero_add _ | rfl)) ?_
 refine av rfl rfl (a7 rfl (ap iO rfl (az rfl)) ?_)
 refine av rfl rfl (a7 rfl (aY it rfl) (av rfl rfl (a7 rfl (aV rfl rfl) (a7 rfl (bI rfl rfl) (a7 rfl (ag rfl) (ac (a8 (ao (ak (.inl rfl) (.cons (aj rfl) .nil) ?_)))))))))
 refine ⟨_, ⟨?_, rfl⟩, kd rfl hv hL rfl rfl⟩
 refine congrArg Value.bool ?_
 rw [Bool.eq_iff_iff, dA, decide_eq_true_iff]
 first
   | (rw [decide_eq_true_iff]; constructor <;> (intro q; omega))
   | (constructor
      · intro q; first | omega | (cases q)
      intro q; omega)
 intro g1_3
 refine aD rfl rfl rfl rfl (aD rfl rfl rfl rfl (aD rfl rfl rfl rfl (aD rfl rfl rfl rfl (aD rfl rfl rfl rfl (aD rfl rfl rfl rfl (a7 rfl (aX rfl rfl) (a7 rfl (ag rfl) (ac (a8 (ao (ak (.inl rfl) (.cons (aj rfl) .nil) ?_)))))))))))
 refine ⟨_, ⟨?_, rfl⟩, kd rfl hv hL rfl rfl⟩
 refine congrArg Value.bool ?_
 rw [Bool.eq_iff_iff, dA, decide_eq_true_iff]
 first
   | (rw [decide_eq_true_iff]; constructor <;> (intro q; omega))
   | (constructor
      · intro q; first | omega | (cases q)
      intro q; omega)
def j0 (w : Int) : Bool := decide (0 ≤ w ∧ w < 16)
theorem qV (W0 : World) (R : List HP) (w : Int) :
    ax Tryz.prog W0 259 [.int .i64 w] R (fun v B => v = .bool (j0 w) ∧ B = R) := by
 refine aB func259 ntmps259 rfl rfl ?_
 refine aa (ae (a7 rfl (ag rfl) (ac (a8 (aa (ae (a7 rfl (ab rfl) (a7 rfl (dr rfl rfl) (a7 rfl (ab rfl) ?_)))))))))
 refine dh rfl rfl rfl ?_ ?_
 intro g1_3
 refine a7 rfl (ab rfl) (av rfl rfl (a7 rfl (aV rfl rfl) (a7 rfl (bI rfl rfl) (a7 rfl (ag rfl) (ac (a8 (ao (ak (.inl rfl) (.cons (aj rfl) .nil) ?_))))))))
 refine ⟨_, ⟨?_, rfl⟩, inferInstance⟩
 refine congrArg Value.bool ?_
 rw [Bool.eq_iff_iff, j0, decide_eq_true_iff]
 first
   | (rw [decide_eq_true_iff]; constructor <;> (intro q; omega))
   | (constructor
      · intro q; first | omega | (cases q)
      intro q; omega)
 intro g1_3
 refine aD rfl rfl rfl rfl (a7 rfl (aX rfl rfl) (a7 rfl (ag rfl) (ac (a8 (ao (ak (.inl rfl) (.cons (aj rfl) .nil) ?_))))))
 refine ⟨_, ⟨?_, rfl⟩, inferInstance⟩
 refine congrArg Value.bool ?_
 rw [Bool.eq_iff_iff, j0, decide_eq_true_iff]
 first
   | (rw [decide_eq_true_iff]; constructor <;> (intro q; omega))
   | (constructor
      · intro q; first | omega | (cases q)
      intro q; omega)
theorem zO (n : Nat) : (List.replicate n ((-1 : Int), false)).flatMap cW ++ [[Value.int .i64 (-1), .bool false]].flatten = (List.replicate (n + 1) ((-1 : Int), false)).flatMap cW := by
 rw [List.replicate_succ', List.flatMap_append]; rfl
theorem uj {R : List HP} : ∀ n : Nat, Ent R (kH 2 (bC (((List.replicate n cX).zip (List.replicate n ([] : List Nat))).map cP)) :: R)
 | 0 => gN (A := [])
 | n + 1 => by
  have ih := uj (R := R) n
  refine ih.trans ?_
  refine (iS (A := ((List.replicate n cX).zip (List.replicate n ([] : List Nat))).map cP) (R := R)).trans ?_
  refine (dZ (E := 3) (sz := 1) (B := ((List.replicate n cX).zip (List.replicate n ([] : List Nat))).map cP ++ R)).trans ?_
  exact gN (A := cP (cX, []) :: ((List.replicate n cX).zip (List.replicate n ([] : List Nat))).map cP) (R := R)
theorem zP (W0 : World) (R : List HP) (ps : Nat) (fr : List aZ) (h0 : 0 < fr.length) (h32 : fr.length ≤ 32) :
    ax Tryz.prog W0 121 [.pointer (some ⟨ps, 0, none⟩)] (bP ps fr :: R)
      (fun v B => ∃ pb, v = .tuple #[.pointer (some ⟨pb, 0, none⟩), .int .i64 0] ∧ B = cn pb (ps, List.replicate fr.length (-1, false)) :: bP ps fr :: R) := by
 refine aB func121 ntmps121 rfl rfl ?_
 refine aa (ae (a7 rfl (ag rfl) (a7 rfl (ag rfl) (ac (a8 (aa (aa (ae (a7 rfl (ab rfl) (ah rfl (aF kE rfl (jo W0 _ ps fr)) ?_))))))))))
 rintro _ B_ ⟨rfl, hB_⟩
 obtain rfl := hB_.symm
 refine a7 rfl (cu rfl rfl) (ac (a8 ?_))
 refine au rfl ?_ ?_
 intro c1
 omega
 intro c1
 refine aA (a8 (aa (ae (a7 rfl (ab rfl) (a7 rfl (cq fa zeroValue420 (aK iu (aK gK (aK pH cp))) (bB rfl iu rfl rfl (Nat.le_of_ble_eq_true rfl) SetL.eq co)) ?_)))))
 refine ah rfl (bL rfl) ?_
 rintro _ _ ⟨pb, rfl, rfl⟩
 refine a7 rfl (ag rfl) (ac (a8 (aa (aa (ae (a7 rfl (ab rfl) (ah rfl (aF kE rfl (jo W0 _ ps fr)) ?_)))))))
 rintro _ B_ ⟨rfl, hB_⟩
 obtain rfl := hB_.symm
 refine a7 rfl (ab rfl) (ac (a8 (aP ?_)))
 refine bX (fun X : Nat × Option Addr × Nat => X.1 ≤ fr.length) (fun X => [(4, .pointer (some ⟨pb, 0, none⟩)), (12, .int .i64 (fr.length : Nat)), (13, .int .i64 X.1)]) (fun X => pt pb (am (dv ps (.slice X.2.1 X.1 X.2.2) (List.replicate 16 cX)) 420) :: osl 422 2 (.slice X.2.1 X.1 X.2.2) ((List.replicate X.1 ((-1 : Int), false)).flatMap cW) :: bP ps fr :: R) (fun X => fr.length - X.1) (0, none, 0) ?_ ?_ ?_ ?_
 exact Nat.zero_le _
 · repeat (first | exact aQ | refine aO rfl ?_)
 exact (Ent.ofPerm (List.Perm.swap _ _ _)).trans (Ent.cons (dZ (E := 422) (sz := 2)))
 intro ⟨i, a2, c2⟩ hi
 dsimp only at hi ⊢
 refine aa (ae (a7 rfl (aV rfl rfl) (ac (a8 (aa ?_)))))
 refine au rfl ?_ ?_
 intro c5
 refine aA (a8 (aa (aP (ae (a7 rfl (ab rfl) (a7 rfl (ab rfl) (a7 rfl (aI rfl) ?_)))))))
 refine a7 rfl (ar rfl fa rfl gK rfl (by first | exact Nat.zero_add _ | rfl)) ?_
 refine a7 rfl (ap iO rfl (az rfl)) ?_
 refine a7 rfl (cq jM EA (aK aC (aK cy cp)) (bB rfl aC rfl rfl (Nat.le_of_ble_eq_true rfl) SetL.eq co)) ?_
 refine ah rfl (fM it jN EA rfl (eB rfl rfl fK) rfl (by decide) (by decide) (by decide)) ?_
 rintro _ _ ⟨b2, rfl, rfl⟩
 refine ah rfl (eg (sz := 2) (by_ := 16) (info := Tryz.t422) it (by kernel_rfl) rfl rfl rfl rfl (by decide) rfl rfl dK rfl rfl (by simp only [maxLen]; omega) (by omega)) ?_
 rintro _ _ ⟨a3, c3, rfl, rfl⟩
 refine a7 rfl (aI rfl) ?_
 refine a7 rfl (ar rfl fa rfl gK rfl (by first | exact Nat.zero_add _ | rfl)) ?_
 refine bc (ck gK rfl rfl rfl (Nat.le_of_ble_eq_true rfl) SetL.eq) ?_
 rintro _ _ rfl
 refine ac (bw (a8 (ae ?_)))
 refine a7 rfl (bz rfl rfl (by first | exact aT (by omega) | rfl)) ?_
 refine a7 rfl (ab rfl) (ac (a8 ?_))
 refine cg (i + 1, a3, c3) ?_ ?_ ?_ ?_
 show i + 1 ≤ fr.length; omega
 show fr.length - (i + 1) < fr.length - i; omega
 · repeat (first | exact aQ | refine aO rfl ?_)
 dsimp only
 rw [← zO]
 exact inferInstance
 intro c5
 refine bF (aR (aR (bH (a8 (aa (ae (a7 rfl (ab rfl) (a7 rfl (ag rfl) (a7 rfl (ag rfl) (ac (a8 (ao (ak (.inl rfl) (.cons (aj rfl) (.cons (aj rfl) .nil)) ?_)))))))))))))
 obtain rfl : i = fr.length := by omega
 refine ⟨_, ⟨pb, rfl, rfl⟩, ?_⟩
 exact (Ent.cons (Ent.cons (uj (R := bP ps fr :: R) 16))).trans (kd (a := a2) (c := c2) rfl (by simp) (LsOk.new _) (by simp) rfl)
theorem zQ (W0 : World) (R : List HP) (pb ps : Nat) (po : Po) (fr : List aZ) (f w : Nat) (t : Bool) (hf : f < po.length) (hff : f < fr.length) (hw : w < 16) (hP : PoOk po) (ha : cG po f = ((w : Int), t))
    (a : Option Addr) (c : Nat) (vs : List Value) (Ls : List (List Nat)) (hv : vs.length = 16) (hL : LsOk (po.set f (-1, false)) Ls) :
    ax Tryz.prog W0 260 [.pointer (some ⟨pb, 0, none⟩), .int .i64 f] (pt pb (am (dv ps (.slice a po.length c) vs) 420) :: osl 422 2 (.slice a po.length c) (po.flatMap cW) :: kH 2 (bC ((vs.zip Ls).map cP)) :: bP ps fr :: R)
      (fun v B => v = .int .i64 0 ∧ B = cn pb (ps, po.set f ((w : Int), false)) :: bP ps (fr.set f bQ) :: R) := by
 have hrow := hL.row w hw
 have hP1 : PoOk (po.set f (-1, false)) := ⟨by rw [List.length_set]; exact hP.len, fun g hg => by
  rw [List.length_set] at hg
  rw [iW hf]
  split
  exact ⟨by decide, by decide, fun _ => rfl⟩
  exact hP.who g hg⟩
 have hrl := hL.rlen hP1 hw
 have hown := yV (po := po.set f (-1, false)) (f := f) (w := w) (by rw [List.length_set]; exact hf) (by rw [iW hf, if_pos rfl]; intro e; have := (Prod.mk.inj e).1; omega)
 rw [List.set_set] at hown
 have hoth : ∀ u, u < 16 → u ≠ w → bS (po.set f ((w : Int), false)) u = bS (po.set f (-1, false)) u := fun u hu hne => by
  have := tW (po := po.set f (-1, false)) (f := f) (x := ((w : Int), false)) (w := u) (by rw [List.length_set]; exact hf) (by rw [iW hf, if_pos rfl]; intro e; have := (Prod.mk.inj e).1; omega) (by intro e; have := (Prod.mk.inj e).1; omega)
  rw [List.set_set] at this
  exact this
 have hset : (po.set f ((cG po f).1, false)) = po.set f ((w : Int), false) := by rw [ha]
 refine aB func260 ntmps260 rfl rfl ?_
 refine aa (ae (a7 rfl (ag rfl) (ac (a8 (aa ?_)))))
 refine eC (r := osl 422 2) (b := .slice a po.length c) (gq (fun h1 h2 => by have := congrArg List.length h2; rw [fW] at this; simp at this; omega) fun g n cap sp h1 h2 h3 h4 h5 => ?_)
 cases h1
 refine ae (a7 rfl (ab rfl) (a7 rfl (aI rfl) ?_))
 refine a7 rfl (ar rfl fa rfl gK rfl (by first | exact Nat.zero_add _ | rfl)) ?_
 refine a7 rfl (ap iO rfl (az rfl)) ?_
 refine a7 rfl (ab rfl) ?_
 refine a7 rfl (bK it jN rfl rfl rfl hf (by first | exact Nat.zero_add _ | rfl)) ?_
 refine a7 rfl (ar rfl jM rfl cy rfl (by first | exact Nat.zero_add _ | rfl)) ?_
 refine bc (ck cy rfl rfl rfl (by rw [List.length_append, fW]; omega) (uf po sp f false hf)) ?_
 rintro _ _ rfl
 refine ac (a8 (aa ?_))
 rw [hset]
 refine gm (B := pt g (am ((po.set f ((w : Int), false)).flatMap cW ++ sp) 422) :: e8 w pb (Ls.getD w [], dv ps (.slice (some ⟨g, 0, none⟩) po.length c) vs) :: kH 3 (bC (((vs.zip Ls).map cP).eraseIdx w)) :: bP ps fr :: R) ?_ ?_
 refine Ent.cons ?_
 exact qS hw hv hL.len
 have hg0 : ((po.set f ((w : Int), false)).flatMap cW ++ sp)[f * 2 + 0]? = some (.int .i64 ((w : Nat) : Int)) := by
  rw [my _ _ _ _ (by rw [List.length_set]; exact hf) (by decide), iW hf, if_pos rfl]; rfl
 have hgl : ((po.set f ((w : Int), false)).flatMap cW ++ sp).length = c * 2 := by
  rw [List.length_append, fW, List.length_set] at *; omega
 refine di [(pb, 1, [.slice (some ⟨g, 0, none⟩) po.length c]), (g, 0, _)] 16 d4 rfl (iV (u4 (T := 420) (E := 3) (sz := 1) (f := eD) (o := 2 + w * 1) (by omega) rfl) (aE aH)) (fun hS => ?_)
 refine ai 0 rfl rfl (by kernel_rfl) (by kernel_rfl) (by kernel_rfl) rfl hS (ab rfl) ?_
 refine ai 1 rfl rfl (by kernel_rfl) (by kernel_rfl) (by kernel_rfl) rfl hS (ab rfl) ?_
 refine ai 2 rfl rfl (by kernel_rfl) (by kernel_rfl) (by kernel_rfl) rfl hS (aI rfl) ?_
 refine ai 3 rfl rfl (by kernel_rfl) (by kernel_rfl) (by kernel_rfl) rfl hS (ar rfl fa rfl gK rfl (by first | exact Nat.zero_add _ | rfl)) ?_
 refine ai 4 rfl rfl (by kernel_rfl) (by kernel_rfl) (by kernel_rfl) rfl hS (ap iO rfl (kX (k := 0) (j := 0) rfl rfl)) ?_
 refine ai 5 rfl rfl (by kernel_rfl) (by kernel_rfl) (by kernel_rfl) rfl hS (ab rfl) ?_
 refine ai 6 rfl rfl (by kernel_rfl) (by kernel_rfl) (by kernel_rfl) rfl hS (bK it jN rfl rfl rfl hf (by first | exact Nat.zero_add _ | rfl)) ?_
 refine ai 7 rfl rfl (by kernel_rfl) (by kernel_rfl) (by kernel_rfl) rfl hS (ar rfl jM rfl aC rfl (by first | exact Nat.zero_add _ | rfl)) ?_
 refine ai 8 rfl rfl (by kernel_rfl) (by kernel_rfl) (by kernel_rfl) rfl hS (ap aM rfl (aU (k := 1) rfl hg0)) ?_
 refine ai 9 rfl rfl (by kernel_rfl) (by kernel_rfl) (by kernel_rfl) rfl hS (aI rfl) ?_
 refine ai 10 rfl rfl (by kernel_rfl) (by kernel_rfl) (by kernel_rfl) rfl hS (ar rfl fa rfl pH rfl (by first | exact Nat.zero_add _ | rfl)) ?_
 refine ai 11 rfl rfl (by kernel_rfl) (by kernel_rfl) (by kernel_rfl) rfl hS (iz se sf rfl rfl rfl hw (by first | exact Nat.zero_add _ | rfl)) ?_
 refine ai 12 rfl rfl (by kernel_rfl) (by kernel_rfl) (by kernel_rfl) rfl hS (kZ EB (fun _ h => by cases h) rfl) ?_
 refine ai 13 rfl rfl (by kernel_rfl) (by kernel_rfl) (by kernel_rfl) rfl hS (ab rfl) ?_
 refine ai 14 rfl rfl (by kernel_rfl) (by kernel_rfl) (by kernel_rfl) rfl hS (kZ dF (fun _ h => by cases h) rfl) ?_
 refine b0 15 (by kernel_rfl) rfl rfl (aF call176 rfl (zI W0 _ pb w (Ls.getD w []) f (dv ps (.slice (some ⟨g, 0, none⟩) po.length c) vs) (by omega) hrow.2)) rfl ?_; clear hS
 rintro _ _ ⟨rfl, l', rfl, hp, hh⟩
 refine ⟨(iV (u4 (T := 420) (E := 3) (sz := 1) (f := eD) (o := 2 + w * 1) (by omega) rfl) (aE aH)), fun hS => ?_⟩
 refine cm (by kernel_rfl) ?_; clear hS
 refine a8 (aa ?_)
 refine gm (B := cn pb (ps, po.set f ((w : Int), false)) :: bP ps fr :: R) ?_ ?_
 have e := e7 (E := 422) (sz := 2) (g := g) (n := po.length) (cap := c) (xs := (po.set f ((w : Int), false)).flatMap cW) (sp := sp) (A := pt g (am ((po.set f ((w : Int), false)).flatMap cW ++ sp) 422) :: kH 3 (bC (((vs.zip Ls).map cP).eraseIdx w)) :: bP ps fr :: R) (B := kH 3 (bC (((vs.zip Ls).map cP).eraseIdx w)) :: bP ps fr :: R) h2 h3 (by rw [fW, List.length_set]) hgl
 refine (Ent.cons e).trans ?_
 exact qT hw hv rfl (by simp) hL.len (hL.set hw (hp.trans ((hrow.1.append_right [f]).trans hown)) hh hoth)
 refine mw (pb := pb) fun a2 c2 vs2 Ls2 hv2 hL2 => ?_
 refine ae (a7 rfl (ab rfl) (a7 rfl (aI rfl) ?_))
 refine a7 rfl (ar rfl fa rfl iu rfl (by first | exact Nat.zero_add _ | rfl)) ?_
 refine a7 rfl (ap lT rfl (az rfl)) ?_
 refine a7 rfl (ab rfl) (ah rfl (aF call339 rfl (zN W0 _ ps fr f hff)) ?_)
 rintro _ B_ ⟨rfl, hB_⟩
 obtain rfl := hB_.symm
 refine a7 rfl (ag rfl) (ac (a8 (ao (ak (.inl rfl) (.cons (aj rfl) .nil) ?_))))
 exact ⟨_, ⟨rfl, rfl⟩, kd rfl hv2 hL2 (by simp) rfl⟩
theorem zR (W0 : World) (R : List HP) (pb ps : Nat) (po : Po) (fr : List aZ) (f w : Nat) (hf : f < po.length) (hff : f < fr.length) (hw : w < 16) (hP : PoOk po) (ha : cG po f = (-1, false)) :
    ax Tryz.prog W0 123 [.pointer (some ⟨pb, 0, none⟩), .int .i64 f, .int .i64 w] (cn pb (ps, po) :: bP ps fr :: R)
      (fun v B => v = .int .i64 0 ∧ B = cn pb (ps, po.set f ((w : Int), false)) :: bP ps (fr.set f bQ) :: R) := by
 have hi : dA po.length f = true := by simp only [dA, decide_eq_true_eq]; omega
 have hw' : j0 w = true := by simp only [j0, decide_eq_true_eq]; omega
 have h0 : po.set f (-1, false) = po := by
  have : cG po f = po[f] := by simp [cG, List.getD, hf]
  rw [← ha, this]; exact List.set_getElem_self _
 refine aB func123 ntmps123 rfl rfl ?_
 refine aa (ae (a7 rfl (ag rfl) (ac (a8 (aa (aP (aa (ae (a7 rfl (ab rfl) ?_)))))))))
 refine ah rfl (aF ng rfl (lj W0 _ pb ps po (by omega))) ?_
 rintro _ B_ ⟨rfl, hB_⟩
 obtain rfl := hB_.symm
 refine a7 rfl (ag rfl) (ac (a8 ?_))
 refine au rfl ?_ ?_
 intro c1
 exact absurd c1 (by decide)
 intro c1
 refine aa (aa (ae (a7 rfl (ab rfl) (a7 rfl (ab rfl) (ah rfl (aF sg rfl (oy W0 _ pb ps po f)) ?_)))))
 rintro _ B_ ⟨rfl, hB_⟩
 obtain rfl := hB_.symm
 refine a7 rfl (bM rfl) (a7 rfl (ag rfl) (ac (a8 ?_)))
 refine au rfl ?_ ?_
 intro c3
 exact absurd c3 (by simp [hi])
 intro c3
 refine ae (a7 rfl (ab rfl) (ah rfl (aS xa rfl (qV W0 _ w)) ?_))
 rintro _ B_ ⟨rfl, hB_⟩
 obtain rfl := hB_.symm
 refine a7 rfl (bM rfl) (a7 rfl (ag rfl) (ac (a8 ?_)))
 refine au rfl ?_ ?_
 intro c4
 exact absurd c4 (by simp [hw'])
 intro c4
 refine aa ?_
 refine mw (pb := pb) fun a c vs Ls hv hL => ?_
 refine eC (r := osl 422 2) (b := .slice a po.length c) (gq (fun h1 h2 => by have := congrArg List.length h2; rw [fW] at this; simp at this; omega) fun g n cap sp h1 h2 h3 h4 h5 => ?_)
 cases h1
 refine ae (a7 rfl (ab rfl) (a7 rfl (aI rfl) ?_))
 refine a7 rfl (ar rfl fa rfl gK rfl (by first | exact Nat.zero_add _ | rfl)) ?_
 refine a7 rfl (ap iO rfl (az rfl)) ?_
 refine a7 rfl (ab rfl) ?_
 refine a7 rfl (bK it jN rfl rfl rfl hf (by first | exact Nat.zero_add _ | rfl)) ?_
 refine a7 rfl (ar rfl jM rfl aC rfl (by first | exact Nat.zero_add _ | rfl)) ?_
 refine a7 rfl (ap aM rfl (az ((my po sp f 0 hf (by decide)).trans (by rw [ha]; rfl)))) ?_
 refine a7 rfl (bT rfl rfl) (a7 rfl (ag rfl) (ac (a8 ?_)))
 refine au rfl ?_ ?_
 intro c6
 exact absurd c6 (by decide)
 intro c6
 refine aA (bw (a8 (aa (ae (a7 rfl (ab rfl) (a7 rfl (aI rfl) ?_))))))
 refine a7 rfl (ar rfl fa rfl gK rfl (by first | exact Nat.zero_add _ | rfl)) ?_
 refine a7 rfl (ap iO rfl (az rfl)) ?_
 refine a7 rfl (ab rfl) (a7 rfl (ab rfl) ?_)
 refine a7 rfl (bK it jN rfl rfl rfl hf (by first | exact Nat.zero_add _ | rfl)) ?_
 refine a7 rfl (ar rfl jM rfl aC rfl (by first | exact Nat.zero_add _ | rfl)) ?_
 refine bc (ck aC rfl rfl rfl (by rw [List.length_append, fW]; omega) (zw po sp f (w : Int) hf)) ?_
 rintro _ _ rfl
 refine ac (a8 (aa ?_))
 rw [ha]
 refine gm (B := pt pb (am (dv ps (.slice (some ⟨g, 0, none⟩) (po.set f ((w : Int), false)).length c) vs) 420) :: osl 422 2 (.slice (some ⟨g, 0, none⟩) (po.set f ((w : Int), false)).length c) ((po.set f ((w : Int), false)).flatMap cW) :: kH 2 (bC ((vs.zip Ls).map cP)) :: bP ps fr :: R) ?_ ?_
 rw [List.length_set]
 have e := e7 (E := 422) (sz := 2) (g := g) (n := po.length) (cap := c) (xs := (po.set f ((w : Int), false)).flatMap cW) (sp := sp) (A := pt g (am ((po.set f ((w : Int), false)).flatMap cW ++ sp) 422) :: kH 2 (bC ((vs.zip Ls).map cP)) :: bP ps fr :: R) (B := kH 2 (bC ((vs.zip Ls).map cP)) :: bP ps fr :: R) h2 h3 (by rw [fW, List.length_set]) (by rw [List.length_append, fW] at h5 ⊢; rw [List.length_set]; exact h5)
 exact (inferInstance : Ent _ (pt pb (am (dv ps (.slice (some ⟨g, 0, none⟩) po.length c) vs) 420) :: pt g (am ((po.set f ((w : Int), false)).flatMap cW ++ sp) 422) :: kH 2 (bC ((vs.zip Ls).map cP)) :: bP ps fr :: R)).trans (Ent.cons e)
 refine ae (a7 rfl (ab rfl) (a7 rfl (ab rfl) ?_))
 refine ah rfl (qI call260 rfl (zQ W0 _ pb ps (po.set f ((w : Int), false)) fr f w false (by rw [List.length_set]; exact hf) hff hw (hP.set hf (by simp) (by simp; omega)) (by rw [iW hf, if_pos rfl]) (some ⟨g, 0, none⟩) c vs Ls hv (by rw [List.set_set, h0]; exact hL))) ?_
 rintro _ B_ ⟨rfl, hB_⟩
 obtain rfl := hB_.symm
 refine a7 rfl (ag rfl) (ac (a8 (ao (ak (.inl rfl) (.cons (aj rfl) .nil) ?_))))
 rw [List.set_set]
 exact ⟨_, ⟨rfl, rfl⟩, inferInstance⟩
theorem zS (W0 : World) (R : List HP) (pb ps : Nat) (po : Po) (w : Nat) (h0 : 0 < po.length) (hw : w < 16) :
    ax Tryz.prog W0 298 [.pointer (some ⟨pb, 0, none⟩), .int .i64 w] (cn pb (ps, po) :: R) (fun v B => v = .int .i64 ((bS po w).length : Nat) ∧ B = cn pb (ps, po) :: R) := by
 have hw' : j0 w = true := by simp only [j0, decide_eq_true_eq]; omega
 refine aB func298 ntmps298 rfl rfl ?_
 refine aa (ae (a7 rfl (ag rfl) (ac (a8 (aa (aa (ae (a7 rfl (ab rfl) (ah rfl (aF ng rfl (lj W0 _ pb ps po h0)) ?_)))))))))
 rintro _ B_ ⟨rfl, hB_⟩
 obtain rfl := hB_.symm
 refine a7 rfl (ab rfl) ?_
 refine bJ rfl rfl rfl ?_ ?_
 intro g1_3
 exact absurd g1_3 (by decide)
 intro g1_3
 refine a7 rfl (ab rfl) (av rfl rfl (ah rfl (aS xa rfl (qV W0 _ w)) ?_))
 rintro _ B_ ⟨rfl, hB_⟩
 obtain rfl := hB_.symm
 refine av rfl rfl (a7 rfl (bM rfl) (a7 rfl (aX rfl rfl) (ac (a8 ?_))))
 refine au rfl ?_ ?_
 intro c1
 exact absurd c1 (by simp [hw'])
 intro c1
 refine aA (a8 (aa ?_))
 refine mw (pb := pb) fun a c vs Ls hv hL => ?_
 have hrow := hL.row w hw
 refine gm (B := e8 w pb (Ls.getD w [], dv ps (.slice a po.length c) vs) :: kH 3 (bC (((vs.zip Ls).map cP).eraseIdx w)) :: osl 422 2 (.slice a po.length c) (po.flatMap cW) :: R) ?_ ?_
 exact (Ent.cons (Ent.ofPerm (List.Perm.swap _ _ _))).trans (qS hw hv hL.len)
 refine ae (a7 rfl (ab rfl) (a7 rfl (ab rfl) (a7 rfl (aI rfl) ?_)))
 refine a7 rfl (ar rfl fa rfl pH rfl (by first | exact Nat.zero_add _ | rfl)) ?_
 refine a7 rfl (iz se sf rfl rfl rfl hw (by first | exact Nat.zero_add _ | rfl)) ?_
 refine ah rfl (aF wX rfl (qU W0 _ pb w (Ls.getD w []) (dv ps (.slice a po.length c) vs))) ?_
 rintro _ B_ ⟨rfl, hB_⟩
 obtain rfl := hB_.symm
 refine a7 rfl (ag rfl) (ac (a8 (ao (ak (.inl rfl) (.cons (aj rfl) .nil) ?_))))
 rw [hrow.1.length_eq]
 have hLs : Ls.set w (Ls.getD w []) = Ls := by
  rw [show Ls.getD w [] = Ls[w]'(by rw [hL.len]; exact hw) by simp [List.getD, hL.len, hw]]; exact List.set_getElem_self _
 refine ⟨_, ⟨rfl, rfl⟩, ?_⟩
 exact (Ent.cons (Ent.ofPerm (List.Perm.swap _ _ _))).trans (qT hw hv rfl rfl hL.len (by rw [hLs]; exact hL))
theorem zT (W0 : World) (R : List HP) (pb ps : Nat) (po : Po) (w f : Nat) (l : List Nat) (hw : w < 16) (hP : PoOk po) (he : bS po w = f :: l) :
    ax Tryz.prog W0 202 [.pointer (some ⟨pb, 0, none⟩), .int .i64 w] (cn pb (ps, po) :: R)
      (fun v B => v = .tuple #[.int .i64 f, .int .i64 0] ∧ B = cn pb (ps, po.set f ((w : Int), true)) :: R) := by
 have hw' : j0 w = true := by simp only [j0, decide_eq_true_eq]; omega
 have hf := iF.1 (show f ∈ bS po w by rw [he]; simp)
 refine aB func202 ntmps202 rfl rfl ?_
 refine aa (ae (a7 rfl (ag rfl) (a7 rfl (ag rfl) (ac (a8 (aa (aP (aa (ae (a7 rfl (ab rfl) ?_))))))))))
 refine ah rfl (aF ng rfl (lj W0 _ pb ps po (by omega))) ?_
 rintro _ B_ ⟨rfl, hB_⟩
 obtain rfl := hB_.symm
 refine a7 rfl (ag rfl) (ac (a8 ?_))
 refine au rfl ?_ ?_
 intro c1
 exact absurd c1 (by decide)
 intro c1
 refine aa (ae (a7 rfl (ab rfl) (ah rfl (aS xa rfl (qV W0 _ w)) ?_)))
 rintro _ B_ ⟨rfl, hB_⟩
 obtain rfl := hB_.symm
 refine a7 rfl (bM rfl) (a7 rfl (ag rfl) (ac (a8 ?_)))
 refine au rfl ?_ ?_
 intro c3
 exact absurd c3 (by simp [hw'])
 intro c3
 refine aa ?_
 refine mw (pb := pb) fun a c vs Ls hv hL => ?_
 have hrow := hL.row w hw
 have hrl := hL.rlen hP hw
 refine gm (B := e8 w pb (Ls.getD w [], dv ps (.slice a po.length c) vs) :: kH 3 (bC (((vs.zip Ls).map cP).eraseIdx w)) :: osl 422 2 (.slice a po.length c) (po.flatMap cW) :: R) ?_ ?_
 exact (Ent.cons (Ent.ofPerm (List.Perm.swap _ _ _))).trans (qS hw hv hL.len)
 refine ae (a7 rfl (ab rfl) (a7 rfl (ab rfl) (a7 rfl (aI rfl) ?_)))
 refine a7 rfl (ar rfl fa rfl pH rfl (by first | exact Nat.zero_add _ | rfl)) ?_
 refine a7 rfl (iz se sf rfl rfl rfl hw (by first | exact Nat.zero_add _ | rfl)) ?_
 refine ah rfl (aF wX rfl (qU W0 _ pb w (Ls.getD w []) (dv ps (.slice a po.length c) vs))) ?_
 rintro _ B_ ⟨rfl, hB_⟩
 obtain rfl := hB_.symm
 refine a7 rfl (cu rfl rfl) (a7 rfl (ag rfl) (ac (a8 ?_)))
 refine au rfl ?_ ?_
 intro c5
 exact absurd c5 (by rw [hrow.1.length_eq, he, List.length_cons]; omega)
 intro c5
 refine aA (bw (a8 (aa (ae (a7 rfl (ab rfl) (a7 rfl (ab rfl) (a7 rfl (aI rfl) ?_)))))))
 refine a7 rfl (ar rfl fa rfl pH rfl (by first | exact Nat.zero_add _ | rfl)) ?_
 refine a7 rfl (iz se sf rfl rfl rfl hw (by first | exact Nat.zero_add _ | rfl)) ?_
 refine a7 rfl (kZ EB (fun _ h => by cases h) rfl) ?_
 refine ah rfl (aF call300 rfl (zJ W0 _ pb w (Ls.getD w []) (dv ps (.slice a po.length c) vs) (by omega) (fun e => by rw [e] at hrow; have := hrow.1.length_eq; rw [he] at this; simp at this) hrow.2)) ?_
 rintro _ _ ⟨x, l', rfl, rfl, hp, hh, hm⟩
 have hpp := hp.trans hrow.1
 have hmm : ∀ y ∈ bS po w, x ≤ y := fun y hy => by have := hm y (hrow.1.mem_iff.2 hy); omega
 have hx := qH hpp hmm
 have hr := yW hpp hmm
 rw [he] at hx
 obtain ⟨rfl, _⟩ := List.cons.inj hx
 have hk : LsOk (po.set f ((w : Int), true)) (Ls.set w l') := hL.set hw hr hh fun u hu hne => tW hf.1 (by rw [hf.2]; intro e; have := (Prod.mk.inj e).1; omega) (by intro e; have := (Prod.mk.inj e).2; cases this)
 refine a7 rfl (nR dF (fun _ h => by cases h) rfl) ?_
 refine a7 rfl (ag rfl) (ac (a8 (aa ?_)))
 refine eC (r := osl 422 2) (b := .slice a po.length c) (gq (fun h1 h2 => by have := congrArg List.length h2; rw [fW] at this; simp at this; omega) fun g n cap sp h1 h2 h3 h4 h5 => ?_)
 cases h1
 refine ae (a7 rfl (ab rfl) (a7 rfl (aI rfl) ?_))
 refine a7 rfl (ar rfl fa rfl gK rfl (by first | exact Nat.zero_add _ | rfl)) ?_
 refine a7 rfl (ap iO rfl (u3 (T := 420) (E := 3) (sz := 1) (f := eD) (o := 2 + w * 1) (by omega) rfl)) ?_
 refine a7 rfl (ab rfl) ?_
 refine a7 rfl (bK it jN rfl rfl rfl hf.1 (by first | exact Nat.zero_add _ | rfl)) ?_
 refine a7 rfl (ar rfl jM rfl cy rfl (by first | exact Nat.zero_add _ | rfl)) ?_
 refine bc (ck cy rfl rfl rfl (by rw [List.length_append, fW]; omega) (uf po sp f true hf.1)) ?_
 rintro _ _ rfl
 refine ac (a8 (aa (ae (a7 rfl (ab rfl) (a7 rfl (ag rfl) (a7 rfl (ag rfl) (ac (a8 (ao (ak (.inl rfl) (.cons (aj rfl) (.cons (aj rfl) .nil)) ?_))))))))))
 rw [hf.2]
 refine ⟨_, ⟨rfl, rfl⟩, ?_⟩
 have e := e7 (E := 422) (sz := 2) (g := g) (n := po.length) (cap := c) (xs := (po.set f ((w : Int), true)).flatMap cW) (sp := sp) (A := pt g (am ((po.set f ((w : Int), true)).flatMap cW ++ sp) 422) :: kH 3 (bC (((vs.zip Ls).map cP).eraseIdx w)) :: R) (B := kH 3 (bC (((vs.zip Ls).map cP).eraseIdx w)) :: R) h2 h3 (by rw [fW, List.length_set]) (by rw [List.length_append, fW] at h5 ⊢; rw [List.length_set]; exact h5)
 exact (inferInstance : Ent _ (e8 w pb (l', dv ps (.slice (some ⟨g, 0, none⟩) po.length c) vs) :: pt g (am ((po.set f ((w : Int), true)).flatMap cW ++ sp) 422) :: kH 3 (bC (((vs.zip Ls).map cP).eraseIdx w)) :: R)).trans ((Ent.cons e).trans (qT hw hv rfl (by simp) hL.len hk))
def wV (w : Nat) : Value := .int .u32 (w : Int)
def oz (l : List Nat) (i : Nat) : Nat := nZ ((l.drop (4 * i)).take 4)
structure Dsc where
  addr : Nat
  len : Nat
  flags : Nat
  next : Nat
structure Dsc.ok (d : Dsc) : Prop where
  addr : d.addr < 4294967296
  len : d.len < 4294967296
  flags : d.flags < 4294967296
  next : d.next < 4294967296
def zU (l : List Nat) : Dsc := ⟨oz l 0, oz l 1, oz l 2, oz l 3⟩
def zD : Dsc := ⟨0, 0, 0, 0⟩
def uk (d : Dsc) (n : Nat) : Int := if 4 ≤ d.flags then 3 else if 64 < d.len then 4 else if d.flags % 2 = 1 ∧ n ≤ d.next then 1 else 0
structure Rg3 where
  desc : Nat
  avail : Nat
  used : Nat
  n : Int
structure Rg3.ok (r : Rg3) : Prop where
  desc : r.desc < 4294967296
  avail : r.avail < 4294967296
  used : r.used < 4294967296
def en (x : Int × Int × Int) : List Value := [.int .i64 x.1, .int .i64 x.2.1, .int .i64 x.2.2]
structure WF (W0 : World) (fn : FuncId) (cs : List Value) (n : Nat) (C : Nat → HP) (w : Nat → Bool) : Prop where
  call : ∀ args u, (callFunc fn args).run Tryz.prog u = .ok (.enter fn args) u
  spec : ∀ i, i < n → ∀ R, ax Tryz.prog W0 fn ([] ++ [.int .i64 (i : Int)] ++ cs) (kH 0 (C i) :: R) (fun v B => v = .bool (w i) ∧ B = kH 0 (C (i + 1)) :: R)
def fX (w : Nat → Bool) (n : Nat) : Bool := (List.range n).any w
theorem zV {w : Nat → Bool} {n i : Nat} (hi : i < n) (h : w i = true) : fX w n = true := List.any_eq_true.2 ⟨i, List.mem_range.2 hi, h⟩
def gx (w : Nat → Bool) (n : Nat) : Option Nat := (List.range n).find? w
theorem zW (w : Nat → Bool) (n : Nat) : (gx w n).isSome = fX w n := by
 rw [Bool.eq_iff_iff, gx, List.find?_isSome, fX, List.any_eq_true]
theorem ul {w : Nat → Bool} {n i : Nat} (hi : i < n) (h : w i = true) (hj : ∀ j, j < i → w j = false) : gx w n = some i := by
 rw [gx, List.find?_eq_some_iff_getElem]
 exact ⟨h, i, by simpa using hi, by simp, fun j h2 => by simp [hj j h2]⟩
theorem um {w : Nat → Bool} {n : Nat} (h : ∀ i, i < n → w i = false) : gx w n = none := by
 rw [gx, List.find?_eq_none]
 intro i hi; rw [h i (List.mem_range.1 hi)]; decide
theorem un (W0 : World) (R : List HP) (fn : FuncId) (cs : List Value) (n : Nat) (C : Nat → HP) (w : Nat → Bool) (hw : WF W0 fn cs n C w) (hn : n ≤ 1000) :
    ax Tryz.prog W0 127 [.int .i64 (n : Int), .func (.func fn) #[] cs.toArray] (kH 0 (C 0) :: R) (fun v B => v = .tuple #[.int .i64 (((gx w n).getD 0 : Nat) : Int), .bool (gx w n).isSome] ∧ B = R) := by
 refine aB func127 ntmps127 rfl rfl ?_
 refine aa (ae (a7 rfl (ag rfl) (a7 rfl (ag rfl) (ac (a8 (aa (aa (ae (a7 rfl (ab rfl) (a7 rfl (ab rfl) (ac (a8 (aP ?_)))))))))))))
 refine bX (fun i : Nat => i ≤ n ∧ ∀ j, j < i → w j = false) (fun i => [(1, .func (.func fn) #[] cs.toArray), (7, .int .i64 (n : Int)), (8, .int .i64 (i : Int))]) (fun i => kH 0 (C i) :: R) (fun i => n - i) 0 ?_ ?_ ?_ ?_
 exact ⟨Nat.zero_le _, fun j hj => absurd hj (Nat.not_lt_zero _)⟩
 · repeat (first | exact aQ | refine aO rfl ?_)
 exact inferInstance
 intro i ⟨hi, hj⟩
 refine aa (ae (a7 rfl (aV rfl rfl) (ac (a8 (aa ?_)))))
 refine au rfl ?_ ?_
 intro c2
 refine aA (a8 (aa (aP (aa (ae (a7 rfl (ab rfl) (a7 rfl (ag rfl) (ac (a8 (aa ?_))))))))))
 have hi1 : i < n := by omega
 refine ae (a7 rfl (ab rfl) (a7 rfl (ab rfl) (ah rfl (qm (us := []) (cs := cs) rfl hw.call rfl (hw.spec i hi1 _)) ?_)))
 rintro _ B_ ⟨rfl, hB_⟩
 obtain rfl := hB_.symm
 refine ac (a8 ?_)
 refine au rfl ?_ ?_
 intro c4
 refine aa (ae (a7 rfl (ab rfl) (a7 rfl (ag rfl) (a7 rfl (ag rfl) (ac (a8 (ao (be (aJ (aJ (be (aJ (ak (.inl rfl) (.cons (aj rfl) (.cons (aj rfl) .nil)) ?_)))))))))))))
 rw [ul hi1 c4 hj]
 exact ⟨_, ⟨rfl, rfl⟩, inferInstance⟩
 intro c4
 refine aA (bw (a8 (ae ?_)))
 refine a7 rfl (bz rfl rfl (by first | exact aT (by omega) | rfl)) ?_
 refine a7 rfl (ab rfl) (ac (a8 ?_))
 refine cg (i + 1) ?_ ?_ ?_ ?_
 refine ⟨by omega, fun j h => ?_⟩
 rcases Nat.lt_or_ge j i with q | q
 exact hj j q
 rw [show j = i by omega]; simpa using c4
 omega
 · repeat (first | exact aQ | refine aO rfl ?_)
 exact inferInstance
 intro c2
 refine bF (aR (aR (bH (a8 (aa (ae (a7 rfl (ag rfl) (a7 rfl (ag rfl) (ac (a8 (ao (ak (.inl rfl) (.cons (aj rfl) (.cons (aj rfl) .nil)) ?_))))))))))))
 obtain rfl : i = n := by omega
 rw [um hj]
 exact ⟨_, ⟨rfl, rfl⟩, inferInstance⟩
theorem uo (W0 : World) (R : List HP) (fn : FuncId) (cs : List Value) (n : Nat) (C : Nat → HP) (w : Nat → Bool) (hw : WF W0 fn cs n C w) (hn : n ≤ 1000) :
    ax Tryz.prog W0 127 [.int .i64 (n : Int), .func (.func fn) #[] cs.toArray] (kH 0 (C 0) :: R) (fun v B => ∃ r, v = .tuple #[.int .i64 r, .bool (fX w n)] ∧ B = R) :=
  nU (un W0 R fn cs n C w hw hn) fun v B hB => by
 obtain ⟨rfl, rfl⟩ := hB
 rw [zW]
 exact ⟨_, ⟨_, rfl, rfl⟩, ent_refl⟩
def dM (l cats : Int) : Bool := decide (0 ≤ cats ∧ cats ≤ 8) && e5 l && decide (kP .i64 l cats = 0)
theorem qW (l cats : Int) : ax Tryz.prog W0 164 [.int .i64 l, .int .i64 cats] R (fun v B => v = .bool (dM l cats) ∧ B = R) := by
 refine aB func164 ntmps164 rfl rfl ?_
 refine aa (ae (a7 rfl (ag rfl) (ac (a8 (aa (aP (aa (aa (ae (a7 rfl (ab rfl) (a7 rfl (aV rfl rfl) (a7 rfl (ag rfl) (ac (a8 ?_))))))))))))))
 refine au rfl ?_ ?_
 intro c1
 refine aA (a8 (cI rfl (aa (ae (a7 rfl (ag rfl) (ac (a8 (ao (be (aJ (ak (.inl rfl) (.cons (aj rfl) .nil) ?_)))))))))))
 have hv : dM l cats = false := by
  rw [← Bool.not_eq_true, dM]; intro q
  simp only [Bool.and_eq_true, decide_eq_true_iff] at q
  first
    | omega
    | (have := q.1.2; simp_all)
 rw [hv]; exact ⟨_, ⟨rfl, rfl⟩, inferInstance⟩
 intro c1
 refine aa (ae (a7 rfl (ab rfl) (a7 rfl (cA rfl rfl) (a7 rfl (ag rfl) (ac (a8 ?_))))))
 refine au rfl ?_ ?_
 intro c2
 refine aA (a8 (cI rfl (aa (ae (a7 rfl (ag rfl) (ac (a8 (ao (be (aJ (ak (.inl rfl) (.cons (aj rfl) .nil) ?_)))))))))))
 have hv : dM l cats = false := by
  rw [← Bool.not_eq_true, dM]; intro q
  simp only [Bool.and_eq_true, decide_eq_true_iff] at q
  first
    | omega
    | (have := q.1.2; simp_all)
 rw [hv]; exact ⟨_, ⟨rfl, rfl⟩, inferInstance⟩
 intro c2
 refine ae (a7 rfl (ab rfl) (ah rfl (aS s9 rfl (or W0 _ l)) ?_))
 rintro _ B_ ⟨rfl, hB_⟩
 obtain rfl := hB_.symm
 refine a7 rfl (bM rfl) (a7 rfl (ag rfl) (ac (a8 ?_)))
 refine au rfl ?_ ?_
 intro c3
 refine aa (ae (a7 rfl (ag rfl) (ac (a8 (ao (be (aJ (ak (.inl rfl) (.cons (aj rfl) .nil) ?_))))))))
 have hv : dM l cats = false := by
  rw [← Bool.not_eq_true, dM]; intro q
  simp only [Bool.and_eq_true, decide_eq_true_iff] at q
  first
    | omega
    | (have := q.1.2; simp_all)
 rw [hv]; exact ⟨_, ⟨rfl, rfl⟩, inferInstance⟩
 intro c3
 refine aA (bw (a8 (aa (ae (a7 rfl (ab rfl) (a7 rfl (ab rfl) ?_))))))
 refine a7 rfl (nE rfl rfl (by omega) rfl) ?_
 refine a7 rfl (cu rfl rfl) (a7 rfl (ag rfl) (ac (a8 (ao (ak (.inl rfl) (.cons (aj rfl) .nil) ?_)))))
 refine ⟨_, ⟨?_, rfl⟩, inferInstance⟩
 refine congrArg Value.bool ?_
 rw [Bool.eq_iff_iff, dM]
 simp only [Bool.and_eq_true, decide_eq_true_iff]
 constructor
 intro q
 refine ⟨⟨by omega, by simp_all⟩, by simpa using q⟩
 intro q
 simpa using q.2
structure Cfg where
  cats : Int
  ga : Option Addr
  gc : Nat
  gl : List (Int × Int × Int)
  ra : Option Addr
  rc : Nat
  rl : List (Int × Int × Int)
  pa : Option Addr
  pc : Nat
  pl : List (Int × Int)
  na : Option Addr
  nc : Nat
  nl : List (Int × Int)
  sa : Option Addr
  sc : Nat
  sl : List (Int × Int)
  gate : Int
  quota : Int
@[reducible] def cF (c : Cfg) : List Value := [.int .i64 c.cats, .slice c.ga c.gl.length c.gc, .slice c.ra c.rl.length c.rc, .slice c.pa c.pl.length c.pc, .slice c.na c.nl.length c.nc, .slice c.sa c.sl.length c.sc, .int .i64 c.gate, .int .i64 c.quota]
def lm (cats : Int) (g : Int × Int × Int) : Bool := !(dM g.1 cats && decide (1 ≤ g.2.1 ∧ g.2.1 ≤ 8 ∧ 0 ≤ g.2.2 ∧ g.2.2 ≤ 8 - g.2.1))
theorem oA {cats : Int} {g : Int × Int × Int} : lm cats g = false ↔ dM g.1 cats = true ∧ 1 ≤ g.2.1 ∧ g.2.1 ≤ 8 ∧ 0 ≤ g.2.2 ∧ g.2.2 ≤ 8 - g.2.1 := by
 rw [lm]; simp only [Bool.not_eq_false', Bool.and_eq_true, decide_eq_true_iff]
theorem kf {cats : Int} {g : Int × Int × Int} (h : ¬ (dM g.1 cats = true ∧ 1 ≤ g.2.1 ∧ g.2.1 ≤ 8 ∧ 0 ≤ g.2.2 ∧ g.2.2 ≤ 8 - g.2.1)) : lm cats g = true := by
 rw [← Bool.not_eq_false, oA]; exact h
theorem zX (W0 : World) (b1 : Nat) (c : Cfg) (hs : ∀ A, bU (bj W0 A) c.ga 3 en c.gl) :
    WF W0 246 [.pointer (some ⟨b1, 0, none⟩)] c.gl.length (fun _ => bC [pt b1 (am (cF c) 29)]) (fun i => lm c.cats (c.gl.getD i (0, 0, 0))) := ⟨call246, fun i hi R => by
 refine jq ?_
 simp only [List.cons_append, List.nil_append]
 obtain ⟨cats, ga, gc, gl, ra, rc, rl, pa, pc, pl, na, nc, nl, sa, sc, sl, gate, quota⟩ := c
 dsimp only at hs hi ⊢
 obtain ⟨g, o, rfl, hc⟩ := (hs (pt b1 (am (cF ⟨cats, ga, gc, gl, ra, rc, rl, pa, pc, pl, na, nc, nl, sa, sc, sl, gate, quota⟩) 29) :: R)).at_ hi
 obtain ⟨x, hx⟩ : ∃ x, gl[i] = x := ⟨_, rfl⟩
 rw [show gl.getD i (0, 0, 0) = x by simp [List.getD, hi, hx]]
 rw [hx] at hc
 refine aB func246 ntmps246 rfl rfl ?_
 refine aa (ae (a7 rfl (ag rfl) (ac (a8 (aa (ae ?_))))))
 refine a7 rfl (ar rfl bW rfl eV rfl (by first | exact Nat.zero_add _ | rfl)) ?_
 refine a7 rfl (ap fq rfl (az rfl)) ?_
 refine a7 rfl (ab rfl) ?_
 refine a7 rfl (bK eA gi rfl rfl rfl hi (by first | exact Nat.zero_add _ | rfl)) ?_
 refine a7 rfl (bN xb gi rfl hc.weak rfl) ?_
 refine ah rfl (cH pI) ?_
 rintro _ _ ⟨bx, rfl, rfl⟩
 refine bc (cD gi rfl rfl rfl rfl rfl) ?_
 rintro _ _ rfl
 refine ac (a8 (aa (aP (aa (ae ?_)))))
 refine a7 rfl (ar rfl gj rfl aC rfl (by first | exact Nat.zero_add _ | rfl)) ?_
 refine a7 rfl (ap aM rfl (az rfl)) ?_
 refine a7 rfl (ar rfl bW rfl aC rfl (by first | exact Nat.zero_add _ | rfl)) ?_
 refine a7 rfl (ap aM rfl (az rfl)) ?_
 refine ah rfl (aS xd rfl (qW x.1 cats)) ?_
 rintro _ B_ ⟨rfl, hB_⟩
 obtain rfl := hB_.symm
 refine a7 rfl (bM rfl) (a7 rfl (ag rfl) (ac (a8 ?_)))
 refine au rfl ?_ ?_
 intro c2
 refine aa (ae (a7 rfl (ag rfl) (ac (a8 (ao (be (aJ (ak (.inl rfl) (.cons (aj rfl) .nil) ?_))))))))
 rw [kf (fun q => by simp_all)]
 exact ⟨_, ⟨rfl, rfl⟩, inferInstance⟩
 intro c2
 refine aa (aa (ae ?_))
 refine a7 rfl (ar rfl gj rfl aC rfl (by first | exact Nat.zero_add _ | rfl)) ?_
 refine a7 rfl (ap aM rfl (az rfl)) ?_
 refine a7 rfl (aV rfl rfl) (a7 rfl (ag rfl) (ac (a8 ?_)))
 refine au rfl ?_ ?_
 intro c4
 refine aA (a8 (cI rfl (aa (ae (a7 rfl (ag rfl) (ac (a8 (ao (be (aJ (ak (.inl rfl) (.cons (aj rfl) .nil) ?_)))))))))))
 rw [kf (fun q => by omega)]
 exact ⟨_, ⟨rfl, rfl⟩, inferInstance⟩
 intro c4
 refine ae ?_
 refine a7 rfl (ar rfl gj rfl aC rfl (by first | exact Nat.zero_add _ | rfl)) ?_
 refine a7 rfl (ap aM rfl (az rfl)) ?_
 refine a7 rfl (cA rfl rfl) (a7 rfl (ag rfl) (ac (a8 ?_)))
 refine au rfl ?_ ?_
 intro c5
 refine aa (ae (a7 rfl (ag rfl) (ac (a8 (ao (be (aJ (ak (.inl rfl) (.cons (aj rfl) .nil) ?_))))))))
 rw [kf (fun q => by omega)]
 exact ⟨_, ⟨rfl, rfl⟩, inferInstance⟩
 intro c5
 refine aA (bw (a8 (aa (ae ?_))))
 refine a7 rfl (ar rfl gj rfl aC rfl (by first | exact Nat.zero_add _ | rfl)) ?_
 refine a7 rfl (ap aM rfl (az rfl)) ?_
 refine a7 rfl (aV rfl rfl) (a7 rfl (ab rfl) ?_)
 refine bJ rfl rfl rfl ?_ ?_
 intro g7_4
 refine aD rfl rfl rfl rfl (aD rfl rfl rfl rfl (aD rfl rfl rfl rfl (aD rfl rfl rfl rfl (aD rfl rfl rfl rfl (a7 rfl (bI rfl rfl) (a7 rfl (ag rfl) (ac (a8 (ao (ak (.inl rfl) (.cons (aj rfl) .nil) ?_))))))))))
 first
   | (rw [kf (fun q => by omega)]; exact ⟨_, ⟨rfl, rfl⟩, inferInstance⟩)
   | (refine ⟨_, ⟨?_, rfl⟩, inferInstance⟩
      refine congrArg Value.bool ?_
      rw [Bool.eq_iff_iff, decide_eq_true_iff]
      constructor
      · intro q; exact kf (fun q2 => by omega)
      intro q
      apply Decidable.byContradiction
      intro q2
      rw [oA.2 ⟨by simp_all, by omega, by omega, by omega, by omega⟩] at q; cases q)
 intro g7_4
 refine a7 rfl (ar rfl gj rfl aC rfl (by first | exact Nat.zero_add _ | rfl)) ?_
 refine av rfl rfl (a7 rfl (ap aM rfl (az rfl)) ?_)
 refine av rfl rfl ?_
 refine a7 rfl (ar rfl gj rfl aC rfl (by first | exact Nat.zero_add _ | rfl)) ?_
 refine av rfl rfl (a7 rfl (ap aM rfl (az rfl)) ?_)
 refine av rfl rfl ?_
 refine a7 rfl (d7 rfl rfl (aT (by omega))) ?_
 refine av rfl rfl (a7 rfl (cA rfl rfl) (a7 rfl (aX rfl rfl) (a7 rfl (ag rfl) (ac (a8 (ao (ak (.inl rfl) (.cons (aj rfl) .nil) ?_)))))))
 first
   | (rw [kf (fun q => by omega)]; exact ⟨_, ⟨rfl, rfl⟩, inferInstance⟩)
   | (refine ⟨_, ⟨?_, rfl⟩, inferInstance⟩
      refine congrArg Value.bool ?_
      rw [Bool.eq_iff_iff, decide_eq_true_iff]
      constructor
      · intro q; exact kf (fun q2 => by omega)
      · intro q
        apply Decidable.byContradiction
        intro q2
        rw [oA.2 ⟨by simp_all, by omega, by omega, by omega, by omega⟩] at q; cases q)
 ⟩
theorem oB (W0 : World) (R : List HP) (fn : FuncId) (cs : List Value) (n b : Nat) (o : Obj) (w : Nat → Bool) (hw : WF W0 fn cs n (fun _ => bC [pt b o]) w) (hn : n ≤ 1000) :
    ax Tryz.prog W0 127 [.int .i64 (n : Int), .func (.func fn) #[] cs.toArray] (pt b o :: R) (fun v B => ∃ r, v = .tuple #[.int .i64 r, .bool (fX w n)] ∧ B = R) :=
  z5 (B := kH 0 (bC [pt b o]) :: R) (gN (A := [pt b o])) (uo W0 R fn cs n (fun _ => bC [pt b o]) w hw hn)
def iG (c : Cfg) : Bool := decide (c.gl.length < 1 ∨ 4 < c.gl.length) || fX (fun i => lm c.cats (c.gl.getD i (0, 0, 0))) c.gl.length
theorem zY (W0 : World) (R : List HP) (c : Cfg) (hs : ∀ A, bU (bj W0 A) c.ga 3 en c.gl) :
    ax Tryz.prog W0 113 [.agg (cF c).toArray] R (fun v B => ∃ r, v = .tuple #[.int .i64 r, .bool (iG c)] ∧ B = R) := by
 obtain ⟨w, hw⟩ : ∃ w, (fun i => lm c.cats (c.gl.getD i (0, 0, 0))) = w := ⟨_, rfl⟩
 have hG : iG c = (decide (c.gl.length < 1 ∨ 4 < c.gl.length) || fX w c.gl.length) := by rw [iG, hw]
 refine aB func113 ntmps113 rfl rfl ?_
 refine aa (ae (ah rfl (bL rfl) ?_))
 rintro _ _ ⟨b1, rfl, rfl⟩
 refine a7 rfl (ag rfl) (a7 rfl (ag rfl) (ac (a8 (aa (aa (ae ?_))))))
 refine a7 rfl (ar rfl bW rfl eV rfl (by first | exact Nat.zero_add _ | rfl)) ?_
 refine a7 rfl (ap fq rfl (az rfl)) ?_
 refine a7 rfl (aY eA rfl) (a7 rfl (aV rfl rfl) (a7 rfl (ab rfl) ?_))
 refine bJ rfl rfl rfl ?_ ?_
 intro g1_5
 refine aD rfl rfl rfl rfl (aD rfl rfl rfl rfl (aD rfl rfl rfl rfl (a7 rfl (bI rfl rfl) (ac (a8 (cI rfl (aa (ae (a7 rfl (ag rfl) (a7 rfl (ag rfl) (ac (a8 (ao (aJ (ak (.inl rfl) (.cons (aj rfl) (.cons (aj rfl) .nil)) ?_)))))))))))))))
 rw [hG, decide_eq_true (by omega), Bool.true_or]
 exact ⟨_, ⟨0, rfl, rfl⟩, inferInstance⟩
 intro g1_5
 refine a7 rfl (ar rfl bW rfl eV rfl (by first | exact Nat.zero_add _ | rfl)) ?_
 refine av rfl rfl (a7 rfl (ap fq rfl (az rfl)) ?_)
 refine av rfl rfl (a7 rfl (aY eA rfl) (av rfl rfl (a7 rfl (cA rfl rfl) (a7 rfl (aX rfl rfl) (ac (a8 ?_))))))
 refine au rfl ?_ ?_
 intro c1
 refine aa (ae (a7 rfl (ag rfl) (a7 rfl (ag rfl) (ac (a8 (ao (aJ (ak (.inl rfl) (.cons (aj rfl) (.cons (aj rfl) .nil)) ?_))))))))
 rw [hG, decide_eq_true (by omega), Bool.true_or]
 exact ⟨_, ⟨0, rfl, rfl⟩, inferInstance⟩
 intro c1
 refine aA (a8 (aa (ae ?_)))
 refine a7 rfl (ar rfl bW rfl eV rfl (by first | exact Nat.zero_add _ | rfl)) ?_
 refine a7 rfl (ap fq rfl (az rfl)) ?_
 refine a7 rfl (aY eA rfl) (a7 rfl (dz rfl rfl) ?_)
 refine ah rfl (aF nh rfl (oB W0 _ 246 [.pointer (some ⟨b1, 0, none⟩)] c.gl.length b1 _ w (hw ▸ zX W0 b1 c hs) (by omega))) ?_
 rintro _ B_ ⟨r, rfl, hB_⟩
 obtain rfl := hB_.symm
 refine a7 rfl (aW rfl rfl) (a7 rfl (aW rfl rfl) (a7 rfl (ag rfl) (a7 rfl (ag rfl) (ac (a8 (ao (ak (.inl rfl) (.cons (aj rfl) (.cons (aj rfl) .nil)) ?_)))))))
 rw [hG, decide_eq_false (by omega), Bool.false_or]
 exact ⟨_, ⟨r, rfl, rfl⟩, inferInstance⟩
def eM (c : Cfg) (i : Int) : Bool := decide (0 ≤ i ∧ i < c.gl.length)
theorem kg (c : Cfg) (i : Int) : ax Tryz.prog W0 251 [.agg (cF c).toArray, .int .i64 i] R (fun v B => v = .bool (eM c i) ∧ B = R) := by
 refine aB func251 ntmps251 rfl rfl ?_
 refine aa (ae (ah rfl (bL rfl) ?_))
 rintro _ _ ⟨b1, rfl, rfl⟩
 refine a7 rfl (ag rfl) (ac (a8 (aa (ae (a7 rfl (ab rfl) (a7 rfl (dr rfl rfl) (a7 rfl (ab rfl) ?_)))))))
 refine dh rfl rfl rfl ?_ ?_
 intro g1_3
 refine a7 rfl (ab rfl) (av rfl rfl ?_)
 refine a7 rfl (ar rfl bW rfl eV rfl (by first | exact Nat.zero_add _ | rfl)) ?_
 refine av rfl rfl (a7 rfl (ap fq rfl (az rfl)) ?_)
 refine av rfl rfl (a7 rfl (aY eA rfl) (av rfl rfl (a7 rfl (aV rfl rfl) (a7 rfl (bI rfl rfl) (a7 rfl (ag rfl) (ac (a8 (ao (ak (.inl rfl) (.cons (aj rfl) .nil) ?_)))))))))
 refine ⟨_, ⟨?_, rfl⟩, inferInstance⟩
 refine congrArg Value.bool ?_
 rw [Bool.eq_iff_iff, eM, decide_eq_true_iff]
 first
   | (rw [decide_eq_true_iff]; constructor
      · intro q; omega
      · intro q; omega)
   | (constructor
      · intro q; first | omega | (cases q)
      intro q; omega)
 intro g1_3
 refine aD rfl rfl rfl rfl (aD rfl rfl rfl rfl (aD rfl rfl rfl rfl (aD rfl rfl rfl rfl (a7 rfl (aX rfl rfl) (a7 rfl (ag rfl) (ac (a8 (ao (ak (.inl rfl) (.cons (aj rfl) .nil) ?_)))))))))
 refine ⟨_, ⟨?_, rfl⟩, inferInstance⟩
 refine congrArg Value.bool ?_
 rw [Bool.eq_iff_iff, eM, decide_eq_true_iff]
 first
   | (rw [decide_eq_true_iff]; constructor
      · intro q; omega
      · intro q; omega)
   | (constructor
      · intro q; first | omega | (cases q)
      intro q; omega)
@[reducible] def d5 (x : Int × Int) : List Value := [.int .i64 x.1, .int .i64 x.2]
def lp (c : Cfg) (s : Int × Int) : Bool := !(eM c s.1 && decide (1 ≤ s.2 ∧ s.2 ≤ 32))
theorem zZ (W0 : World) (b1 : Nat) (c : Cfg) (hs : ∀ A, bU (bj W0 A) c.sa 2 d5 c.sl) :
    WF W0 255 [.pointer (some ⟨b1, 0, none⟩)] c.sl.length (fun _ => bC [pt b1 (am (cF c) 29)]) (fun i => lp c (c.sl.getD i (0, 0))) := ⟨call255, fun i hi R => by
 refine jq ?_
 simp only [List.cons_append, List.nil_append]
 obtain ⟨g, o, hga, hc⟩ := (hs (pt b1 (am (cF c) 29) :: R)).at_ hi
 obtain ⟨x, hx⟩ : ∃ x, c.sl[i] = x := ⟨_, rfl⟩
 rw [show c.sl.getD i (0, 0) = x by simp [List.getD, hi, hx]]
 rw [hx] at hc
 obtain ⟨w, hw⟩ : ∃ w, eM c x.1 = w := ⟨_, rfl⟩
 have hW : lp c x = !(w && decide (1 ≤ x.2 ∧ x.2 ≤ 32)) := by rw [lp, hw]
 rw [hW]
 obtain ⟨cats, ga, gc, gl, ra, rc, rl, pa, pc, pl, na, nc, nl, sa, sc, sl, gate, quota⟩ := c
 dsimp only at hs hi hga hc hw ⊢
 subst hga
 refine aB func255 ntmps255 rfl rfl ?_
 refine aa (ae (a7 rfl (ag rfl) (ac (a8 (aa (ae ?_))))))
 refine a7 rfl (ar rfl bW rfl i6 rfl (by first | exact Nat.zero_add _ | rfl)) ?_
 refine a7 rfl (ap jO rfl (az rfl)) ?_
 refine a7 rfl (ab rfl) ?_
 refine a7 rfl (bK fF iw rfl rfl rfl hi (by first | exact Nat.zero_add _ | rfl)) ?_
 refine a7 rfl (bN sh iw rfl hc.weak rfl) ?_
 refine ah rfl (cH pJ) ?_
 rintro _ _ ⟨bx, rfl, rfl⟩
 refine bc (cD iw rfl rfl rfl rfl rfl) ?_
 rintro _ _ rfl
 refine ac (a8 (aa (ae (a7 rfl (cC cR ce rfl rfl) ?_))))
 refine a7 rfl (ar rfl iP rfl aC rfl (by first | exact Nat.zero_add _ | rfl)) ?_
 refine a7 rfl (ap aM rfl (az rfl)) ?_
 refine ah rfl (aS lU rfl (kg ⟨cats, ga, gc, gl, ra, rc, rl, pa, pc, pl, na, nc, nl, some ⟨g, o, none⟩, sc, sl, gate, quota⟩ x.1)) ?_
 rintro _ B_ ⟨rfl, hB_⟩
 obtain rfl := hB_.symm
 rw [hw]
 refine a7 rfl (bM rfl) (a7 rfl (ab rfl) ?_)
 refine bJ rfl rfl rfl ?_ ?_
 intro g2_6
 refine aD rfl rfl rfl rfl (aD rfl rfl rfl rfl (a7 rfl (bI rfl rfl) (a7 rfl (ab rfl) (aD rfl rfl rfl rfl (aD rfl rfl rfl rfl (aD rfl rfl rfl rfl (a7 rfl (bI rfl rfl) (a7 rfl (ag rfl) (ac (a8 (ao (ak (.inl rfl) (.cons (aj rfl) .nil) ?_))))))))))))
 refine ⟨_, ⟨?_, rfl⟩, inferInstance⟩
 refine congrArg Value.bool ?_
 rw [Bool.eq_iff_iff]
 cases w <;> simp_all <;> omega
 intro g2_6
 refine a7 rfl (ar rfl iP rfl aC rfl (by first | exact Nat.zero_add _ | rfl)) ?_
 refine av rfl rfl (a7 rfl (ap aM rfl (az rfl)) ?_)
 refine av rfl rfl (a7 rfl (aV rfl rfl) (a7 rfl (aX rfl rfl) (a7 rfl (ab rfl) ?_)))
 refine bJ rfl rfl rfl ?_ ?_
 intro g2_11
 refine aD rfl rfl rfl rfl (aD rfl rfl rfl rfl (a7 rfl (bI rfl rfl) (a7 rfl (ag rfl) (ac (a8 (ao (ak (.inl rfl) (.cons (aj rfl) .nil) ?_)))))))
 refine ⟨_, ⟨?_, rfl⟩, inferInstance⟩
 refine congrArg Value.bool ?_
 rw [Bool.eq_iff_iff]
 cases w <;> simp_all <;> omega
 intro g2_11
 refine a7 rfl (ar rfl iP rfl aC rfl (by first | exact Nat.zero_add _ | rfl)) ?_
 refine av rfl rfl (a7 rfl (ap aM rfl (az rfl)) ?_)
 refine av rfl rfl (a7 rfl (cA rfl rfl) (a7 rfl (aX rfl rfl) (a7 rfl (ag rfl) (ac (a8 (ao (ak (.inl rfl) (.cons (aj rfl) .nil) ?_)))))))
 refine ⟨_, ⟨?_, rfl⟩, inferInstance⟩
 refine congrArg Value.bool ?_
 rw [Bool.eq_iff_iff]
 cases w <;> simp_all <;> omega
 ⟩
def jv (c : Cfg) : Bool := decide (c.sl.length < 1 ∨ 8 < c.sl.length) || fX (fun i => lp c (c.sl.getD i (0, 0))) c.sl.length
theorem A0 (W0 : World) (R : List HP) (c : Cfg) (hs : ∀ A, bU (bj W0 A) c.sa 2 d5 c.sl) :
    ax Tryz.prog W0 117 [.agg (cF c).toArray] R (fun v B => ∃ r, v = .tuple #[.int .i64 r, .bool (jv c)] ∧ B = R) := by
 obtain ⟨w, hw⟩ : ∃ w, (fun i => lp c (c.sl.getD i (0, 0))) = w := ⟨_, rfl⟩
 have hG : jv c = (decide (c.sl.length < 1 ∨ 8 < c.sl.length) || fX w c.sl.length) := by rw [jv, hw]
 refine aB func117 ntmps117 rfl rfl ?_
 refine aa (ae (ah rfl (bL rfl) ?_))
 rintro _ _ ⟨b1, rfl, rfl⟩
 refine a7 rfl (ag rfl) (a7 rfl (ag rfl) (ac (a8 (aa (aa (ae ?_))))))
 refine a7 rfl (ar rfl bW rfl i6 rfl (by first | exact Nat.zero_add _ | rfl)) ?_
 refine a7 rfl (ap jO rfl (az rfl)) ?_
 refine a7 rfl (aY fF rfl) (a7 rfl (aV rfl rfl) (a7 rfl (ab rfl) ?_))
 refine bJ rfl rfl rfl ?_ ?_
 intro g1_5
 refine aD rfl rfl rfl rfl (aD rfl rfl rfl rfl (aD rfl rfl rfl rfl (a7 rfl (bI rfl rfl) (ac (a8 (cI rfl (aa (ae (a7 rfl (ag rfl) (a7 rfl (ag rfl) (ac (a8 (ao (aJ (ak (.inl rfl) (.cons (aj rfl) (.cons (aj rfl) .nil)) ?_)))))))))))))))
 rw [hG, decide_eq_true (by omega), Bool.true_or]
 exact ⟨_, ⟨0, rfl, rfl⟩, inferInstance⟩
 intro g1_5
 refine a7 rfl (ar rfl bW rfl i6 rfl (by first | exact Nat.zero_add _ | rfl)) ?_
 refine av rfl rfl (a7 rfl (ap jO rfl (az rfl)) ?_)
 refine av rfl rfl (a7 rfl (aY fF rfl) (av rfl rfl (a7 rfl (cA rfl rfl) (a7 rfl (aX rfl rfl) (ac (a8 ?_))))))
 refine au rfl ?_ ?_
 intro c1
 refine aa (ae (a7 rfl (ag rfl) (a7 rfl (ag rfl) (ac (a8 (ao (aJ (ak (.inl rfl) (.cons (aj rfl) (.cons (aj rfl) .nil)) ?_))))))))
 rw [hG, decide_eq_true (by omega), Bool.true_or]
 exact ⟨_, ⟨0, rfl, rfl⟩, inferInstance⟩
 intro c1
 refine aA (a8 (aa (ae ?_)))
 refine a7 rfl (ar rfl bW rfl i6 rfl (by first | exact Nat.zero_add _ | rfl)) ?_
 refine a7 rfl (ap jO rfl (az rfl)) ?_
 refine a7 rfl (aY fF rfl) (a7 rfl (dz rfl rfl) ?_)
 refine ah rfl (aF nh rfl (oB W0 _ 255 [.pointer (some ⟨b1, 0, none⟩)] c.sl.length b1 _ w (hw ▸ zZ W0 b1 c hs) (by omega))) ?_
 rintro _ B_ ⟨r, rfl, hB_⟩
 obtain rfl := hB_.symm
 refine a7 rfl (aW rfl rfl) (a7 rfl (aW rfl rfl) (a7 rfl (ag rfl) (a7 rfl (ag rfl) (ac (a8 (ao (ak (.inl rfl) (.cons (aj rfl) (.cons (aj rfl) .nil)) ?_)))))))
 rw [hG, decide_eq_false (by omega), Bool.false_or]
 exact ⟨_, ⟨r, rfl, rfl⟩, inferInstance⟩
def fY (c : Cfg) : Bool := if c.gate = -1 then decide (c.quota ≠ 0) else !(eM c c.gate && decide (0 ≤ c.quota ∧ c.quota ≤ 64))
theorem A1 (c : Cfg) : ax Tryz.prog W0 118 [.agg (cF c).toArray] R (fun v B => v = .bool (fY c) ∧ B = R) := by
 obtain ⟨w, hw⟩ : ∃ w, eM c c.gate = w := ⟨_, rfl⟩
 have hW : fY c = if c.gate = -1 then decide (c.quota ≠ 0) else !(w && decide (0 ≤ c.quota ∧ c.quota ≤ 64)) := by rw [fY, hw]
 rw [hW]
 refine aB func118 ntmps118 rfl rfl ?_
 refine aa (ae (ah rfl (bL rfl) ?_))
 rintro _ _ ⟨b1, rfl, rfl⟩
 refine a7 rfl (ag rfl) (ac (a8 (aa (aP (aa (aP (aP (aa (aP (aa (aa (aa (ae ?_)))))))))))))
 refine a7 rfl (ar rfl bW rfl aC rfl (by first | exact Nat.zero_add _ | rfl)) ?_
 refine a7 rfl (ap aM rfl (az rfl)) ?_
 refine a7 rfl (cu rfl rfl) (a7 rfl (ag rfl) (ac (a8 ?_)))
 refine au rfl ?_ ?_
 intro c1
 refine bF (aR (aR (bH (a8 (aa (aa (ae ?_)))))))
 refine a7 rfl (ar rfl bW rfl aC rfl (by first | exact Nat.zero_add _ | rfl)) ?_
 refine a7 rfl (ap aM rfl (az rfl)) ?_
 refine a7 rfl (bT rfl rfl) (a7 rfl (ag rfl) (ac (a8 (ao (aJ (be (be (aJ (be (aJ (ak (.inl rfl) (.cons (aj rfl) .nil) ?_)))))))))))
 refine ⟨_, ⟨?_, rfl⟩, inferInstance⟩
 refine congrArg Value.bool ?_
 rw [Bool.eq_iff_iff]
 cases w <;> simp_all <;> omega
 intro c1
 refine aA (a8 (aa (aa (ae (a7 rfl (cC cR ce rfl rfl) ?_)))))
 refine a7 rfl (ar rfl bW rfl aC rfl (by first | exact Nat.zero_add _ | rfl)) ?_
 refine a7 rfl (ap aM rfl (az rfl)) ?_
 refine ah rfl (aS lU rfl (kg c c.gate)) ?_
 rintro _ B_ ⟨rfl, hB_⟩
 obtain rfl := hB_.symm
 rw [hw]
 refine a7 rfl (bM rfl) (a7 rfl (ag rfl) (ac (a8 ?_)))
 refine au rfl ?_ ?_
 intro c2
 refine bF (aR (aR (dY rfl (aR (bH (bw (a8 (aa (aa (ae (a7 rfl (ag rfl) (ac (a8 (ao (aJ (be (aJ (ak (.inl rfl) (.cons (aj rfl) .nil) ?_))))))))))))))))))
 refine ⟨_, ⟨?_, rfl⟩, inferInstance⟩
 refine congrArg Value.bool ?_
 rw [Bool.eq_iff_iff]
 cases w <;> simp_all <;> omega
 intro c2
 refine aA (a8 (aa (aa (ae ?_))))
 refine a7 rfl (ar rfl bW rfl aC rfl (by first | exact Nat.zero_add _ | rfl)) ?_
 refine a7 rfl (ap aM rfl (az rfl)) ?_
 refine a7 rfl (aV rfl rfl) (a7 rfl (ag rfl) (ac (a8 ?_)))
 refine au rfl ?_ ?_
 intro c3
 refine aA (a8 (cI rfl (bF (aR (dY rfl (aR (dY rfl (bH (a8 (aa (aa (ae (a7 rfl (ag rfl) (ac (a8 (ao (aJ (be (aJ (ak (.inl rfl) (.cons (aj rfl) .nil) ?_))))))))))))))))))))
 refine ⟨_, ⟨?_, rfl⟩, inferInstance⟩
 refine congrArg Value.bool ?_
 rw [Bool.eq_iff_iff]
 cases w <;> simp_all <;> omega
 intro c3
 refine ae ?_
 refine a7 rfl (ar rfl bW rfl aC rfl (by first | exact Nat.zero_add _ | rfl)) ?_
 refine a7 rfl (ap aM rfl (az rfl)) ?_
 refine a7 rfl (cA rfl rfl) (a7 rfl (ag rfl) (ac (a8 ?_)))
 refine au rfl ?_ ?_
 intro c4
 refine bF (aR (dY rfl (aR (dY rfl (bH (a8 (aa (aa (ae (a7 rfl (ag rfl) (ac (a8 (ao (aJ (be (aJ (ak (.inl rfl) (.cons (aj rfl) .nil) ?_)))))))))))))))))
 refine ⟨_, ⟨?_, rfl⟩, inferInstance⟩
 refine congrArg Value.bool ?_
 rw [Bool.eq_iff_iff]
 cases w <;> simp_all <;> omega
 intro c4
 refine aA (a8 (bF (dY rfl (aR (dY rfl (dY rfl (aR (bH (a8 (aa (ae (a7 rfl (ag rfl) (ac (a8 (ao (ak (.inl rfl) (.cons (aj rfl) .nil) ?_))))))))))))))))
 refine ⟨_, ⟨?_, rfl⟩, inferInstance⟩
 refine congrArg Value.bool ?_
 rw [Bool.eq_iff_iff]
 cases w <;> simp_all <;> omega
def gV (c : Cfg) (i : Int) : Int := (c.gl.getD i.toNat (0, 0, 0)).1
def lq (c : Cfg) (x : Int × Int) : Bool := !(eM c x.1 && eM c x.2 && decide (x.1 ≠ x.2) && js (gV c x.1) (gV c x.2))
theorem A2 (W0 : World) (b1 : Nat) (c : Cfg) (hs : ∀ A, bU (bj W0 A) c.na 2 d5 c.nl) (hgs : ∀ A, bU (bj W0 A) c.ga 3 en c.gl) :
    WF W0 253 [.pointer (some ⟨b1, 0, none⟩)] c.nl.length (fun _ => bC [pt b1 (am (cF c) 29)]) (fun i => lq c (c.nl.getD i (0, 0))) := ⟨call253, fun i hi R => by
 refine jq ?_
 simp only [List.cons_append, List.nil_append]
 obtain ⟨g, o, hga, hc⟩ := (hs (pt b1 (am (cF c) 29) :: R)).at_ hi
 obtain ⟨x, hx⟩ : ∃ x, c.nl[i] = x := ⟨_, rfl⟩
 rw [show c.nl.getD i (0, 0) = x by simp [List.getD, hi, hx]]
 rw [hx] at hc
 obtain ⟨p, q⟩ := x
 obtain ⟨w1, hw1⟩ : ∃ w, eM c p = w := ⟨_, rfl⟩
 obtain ⟨w2, hw2⟩ : ∃ w, eM c q = w := ⟨_, rfl⟩
 have hW : lq c (p, q) = !(w1 && w2 && decide (p ≠ q) && js (gV c p) (gV c q)) := by rw [lq, hw1, hw2]
 by_cases hb : w1 = true ∧ w2 = true
 obtain ⟨rfl, rfl⟩ := hb
 have h1 : 0 ≤ p ∧ p < c.gl.length := of_decide_eq_true hw1
 have h2 : 0 ≤ q ∧ q < c.gl.length := of_decide_eq_true hw2
 obtain ⟨j, rfl⟩ : ∃ j : Nat, p = (j : Int) := ⟨p.toNat, by omega⟩
 obtain ⟨k, rfl⟩ : ∃ k : Nat, q = (k : Int) := ⟨q.toNat, by omega⟩
 have hj : j < c.gl.length := by omega
 have hk : k < c.gl.length := by omega
 obtain ⟨u, hu⟩ : ∃ u, c.gl[j] = u := ⟨_, rfl⟩
 obtain ⟨v, hv⟩ : ∃ v, c.gl[k] = v := ⟨_, rfl⟩
 have hl1 : gV c (j : Int) = u.1 := by rw [gV, Int.toNat_natCast]; simp [List.getD, hj, hu]
 have hl2 : gV c (k : Int) = v.1 := by rw [gV, Int.toNat_natCast]; simp [List.getD, hk, hv]
 rw [hl1, hl2] at hW
 rw [hW]
 obtain ⟨gg, og, hgg, hcj⟩ := (hgs (pt b1 (am (cF c) 29) :: R)).at_ hj
 obtain ⟨gh, oh, hgh, hck⟩ := (hgs (pt b1 (am (cF c) 29) :: R)).at_ hk
 rw [hu] at hcj
 rw [hv] at hck
 obtain ⟨cats, ga, gc, gl, ra, rc, rl, pa, pc, pl, na, nc, nl, sa, sc, sl, gate, quota⟩ := c
 dsimp only at hi hga hc hw1 hw2 hj hk hgg hgh hcj hck ⊢
 subst hga
 subst hgg
 obtain ⟨rfl, rfl⟩ : gg = gh ∧ og = oh := by cases hgh; exact ⟨rfl, rfl⟩
 refine aB func253 ntmps253 rfl rfl ?_
 refine aa (ae (a7 rfl (ag rfl) (ac (a8 (aa (ae ?_))))))
 refine a7 rfl (ar rfl bW rfl jP rfl (by first | exact Nat.zero_add _ | rfl)) ?_
 refine a7 rfl (ap kF rfl (az rfl)) ?_
 refine a7 rfl (ab rfl) ?_
 refine a7 rfl (bK jQ j8 rfl rfl rfl hi (by first | exact Nat.zero_add _ | rfl)) ?_
 refine a7 rfl (bN si j8 rfl hc.weak rfl) ?_
 refine ah rfl (cH xe) ?_
 rintro _ _ ⟨bx, rfl, rfl⟩
 refine bc (cD j8 rfl rfl rfl rfl rfl) ?_
 rintro _ _ rfl
 refine ac (a8 (aa (aa (ae (a7 rfl (cC cR ce rfl rfl) ?_)))))
 refine a7 rfl (ar rfl j9 rfl aC rfl (by first | exact Nat.zero_add _ | rfl)) ?_
 refine a7 rfl (ap aM rfl (az rfl)) ?_
 refine ah rfl (aS lU rfl (kg ⟨cats, some ⟨gg, og, none⟩, gc, gl, ra, rc, rl, pa, pc, pl, some ⟨g, o, none⟩, nc, nl, sa, sc, sl, gate, quota⟩ (j : Int))) ?_
 rintro _ B_ ⟨rfl, hB_⟩
 obtain rfl := hB_.symm
 rw [hw1]
 refine a7 rfl (bM rfl) (a7 rfl (ab rfl) ?_)
 refine bJ rfl rfl rfl ?_ ?_
 intro g2_6
 exact absurd rfl g2_6
 intro g2_6
 refine a7 rfl (cC cR ce rfl rfl) ?_
 refine av rfl rfl ?_
 refine a7 rfl (ar rfl j9 rfl aC rfl (by first | exact Nat.zero_add _ | rfl)) ?_
 refine av rfl rfl (a7 rfl (ap aM rfl (az rfl)) ?_)
 refine av rfl rfl (ah rfl (aS lU rfl (kg ⟨cats, some ⟨gg, og, none⟩, gc, gl, ra, rc, rl, pa, pc, pl, some ⟨g, o, none⟩, nc, nl, sa, sc, sl, gate, quota⟩ (k : Int))) ?_)
 rintro _ B_ ⟨rfl, hB_⟩
 obtain rfl := hB_.symm
 rw [hw2]
 refine av rfl rfl (a7 rfl (bM rfl) (a7 rfl (aX rfl rfl) (a7 rfl (ab rfl) ?_)))
 refine bJ rfl rfl rfl ?_ ?_
 intro g2_13
 exact absurd rfl g2_13
 intro g2_13
 refine a7 rfl (ar rfl j9 rfl aC rfl (by first | exact Nat.zero_add _ | rfl)) ?_
 refine av rfl rfl (a7 rfl (ap aM rfl (az rfl)) ?_)
 refine av rfl rfl ?_
 refine a7 rfl (ar rfl j9 rfl aC rfl (by first | exact Nat.zero_add _ | rfl)) ?_
 refine av rfl rfl (a7 rfl (ap aM rfl (az rfl)) ?_)
 refine av rfl rfl (a7 rfl (cu rfl rfl) (a7 rfl (aX rfl rfl) (ac (a8 ?_))))
 refine au rfl ?_ ?_
 intro c2
 refine aa (ae (a7 rfl (ag rfl) (ac (a8 (ao (aJ (ak (.inl rfl) (.cons (aj rfl) .nil) ?_)))))))
 refine ⟨_, ⟨?_, rfl⟩, inferInstance⟩
 refine congrArg Value.bool ?_
 rw [Bool.eq_iff_iff]
 simp_all
 intro c2
 refine aA (a8 (aa ?_))
 refine di [(b1, 0, _), (bx, 0, _), (gg, og + j * 3, en u), (gg, og + k * 3, en v)] 17 d4 rfl (aE (aE (iV hcj.weak (iV hck.weak aH)))) (fun hS => ?_)
 refine ai 0 rfl rfl (by kernel_rfl) (by kernel_rfl) (by kernel_rfl) rfl hS (ar rfl bW rfl eV rfl (by first | exact Nat.zero_add _ | rfl)) ?_
 refine ai 1 rfl rfl (by kernel_rfl) (by kernel_rfl) (by kernel_rfl) rfl hS (ap fq rfl (by first | exact aU (k := 0) rfl rfl | exact aU (k := 1) rfl rfl | exact aU (k := 2) rfl rfl | exact aU (k := 3) rfl rfl)) ?_
 refine ai 2 rfl rfl (by kernel_rfl) (by kernel_rfl) (by kernel_rfl) rfl hS (ar rfl j9 rfl aC rfl (by first | exact Nat.zero_add _ | rfl)) ?_
 refine ai 3 rfl rfl (by kernel_rfl) (by kernel_rfl) (by kernel_rfl) rfl hS (ap aM rfl (by first | exact aU (k := 0) rfl rfl | exact aU (k := 1) rfl rfl | exact aU (k := 2) rfl rfl | exact aU (k := 3) rfl rfl)) ?_
 refine ai 4 rfl rfl (by kernel_rfl) (by kernel_rfl) (by kernel_rfl) rfl hS (bK eA gi rfl rfl rfl hj (by first | exact Nat.zero_add _ | rfl)) ?_
 refine ai 5 rfl rfl (by kernel_rfl) (by kernel_rfl) (by kernel_rfl) rfl hS (ar rfl gj rfl aC rfl (by first | exact Nat.zero_add _ | rfl)) ?_
 refine ai 6 rfl rfl (by kernel_rfl) (by kernel_rfl) (by kernel_rfl) rfl hS (ap aM rfl (kX (k := 2) (j := 0) rfl rfl)) ?_
 refine ai 7 rfl rfl (by kernel_rfl) (by kernel_rfl) (by kernel_rfl) rfl hS (ar rfl bW rfl eV rfl (by first | exact Nat.zero_add _ | rfl)) ?_
 refine ai 8 rfl rfl (by kernel_rfl) (by kernel_rfl) (by kernel_rfl) rfl hS (ap fq rfl (by first | exact aU (k := 0) rfl rfl | exact aU (k := 1) rfl rfl | exact aU (k := 2) rfl rfl | exact aU (k := 3) rfl rfl)) ?_
 refine ai 9 rfl rfl (by kernel_rfl) (by kernel_rfl) (by kernel_rfl) rfl hS (ar rfl j9 rfl aC rfl (by first | exact Nat.zero_add _ | rfl)) ?_
 refine ai 10 rfl rfl (by kernel_rfl) (by kernel_rfl) (by kernel_rfl) rfl hS (ap aM rfl (by first | exact aU (k := 0) rfl rfl | exact aU (k := 1) rfl rfl | exact aU (k := 2) rfl rfl | exact aU (k := 3) rfl rfl)) ?_
 refine ai 11 rfl rfl (by kernel_rfl) (by kernel_rfl) (by kernel_rfl) rfl hS (bK eA gi rfl rfl rfl hk (by first | exact Nat.zero_add _ | rfl)) ?_
 refine ai 12 rfl rfl (by kernel_rfl) (by kernel_rfl) (by kernel_rfl) rfl hS (ar rfl gj rfl aC rfl (by first | exact Nat.zero_add _ | rfl)) ?_
 refine ai 13 rfl rfl (by kernel_rfl) (by kernel_rfl) (by kernel_rfl) rfl hS (ap aM rfl (kX (k := 3) (j := 0) rfl rfl)) ?_
 refine b0 14 (by kernel_rfl) rfl rfl (aS call254 rfl (zg u.1 v.1)) rfl ?_; clear hS
 rintro _ B_ ⟨rfl, hB_⟩
 obtain rfl := hB_.symm
 refine ⟨(aE (aE (iV hcj.weak (iV hck.weak aH)))), fun hS => ?_⟩
 refine ai 15 rfl rfl (by kernel_rfl) (by kernel_rfl) (by kernel_rfl) rfl hS (bM rfl) ?_
 refine ai 16 rfl rfl (by kernel_rfl) (by kernel_rfl) (by kernel_rfl) rfl hS (ag rfl) ?_
 refine cm (by kernel_rfl) ?_; clear hS
 refine a8 (ao (ak (.inl rfl) (.cons (aj rfl) .nil) ?_))
 refine ⟨_, ⟨?_, rfl⟩, inferInstance⟩
 refine congrArg Value.bool ?_
 rw [Bool.eq_iff_iff]
 simp_all
 have hW2 : lq c (p, q) = true := by
  rw [hW]; cases w1 <;> cases w2 <;> simp_all
 rw [hW2]
 obtain ⟨cats, ga, gc, gl, ra, rc, rl, pa, pc, pl, na, nc, nl, sa, sc, sl, gate, quota⟩ := c
 dsimp only at hi hga hc hw1 hw2 ⊢
 subst hga
 refine aB func253 ntmps253 rfl rfl ?_
 refine aa (ae (a7 rfl (ag rfl) (ac (a8 (aa (ae ?_))))))
 refine a7 rfl (ar rfl bW rfl jP rfl (by first | exact Nat.zero_add _ | rfl)) ?_
 refine a7 rfl (ap kF rfl (az rfl)) ?_
 refine a7 rfl (ab rfl) ?_
 refine a7 rfl (bK jQ j8 rfl rfl rfl hi (by first | exact Nat.zero_add _ | rfl)) ?_
 refine a7 rfl (bN si j8 rfl hc.weak rfl) ?_
 refine ah rfl (cH xe) ?_
 rintro _ _ ⟨bx, rfl, rfl⟩
 refine bc (cD j8 rfl rfl rfl rfl rfl) ?_
 rintro _ _ rfl
 refine ac (a8 (aa (aa (ae (a7 rfl (cC cR ce rfl rfl) ?_)))))
 refine a7 rfl (ar rfl j9 rfl aC rfl (by first | exact Nat.zero_add _ | rfl)) ?_
 refine a7 rfl (ap aM rfl (az rfl)) ?_
 refine ah rfl (aS lU rfl (kg ⟨cats, ga, gc, gl, ra, rc, rl, pa, pc, pl, some ⟨g, o, none⟩, nc, nl, sa, sc, sl, gate, quota⟩ p)) ?_
 rintro _ B_ ⟨rfl, hB_⟩
 obtain rfl := hB_.symm
 rw [hw1]
 refine a7 rfl (bM rfl) (a7 rfl (ab rfl) ?_)
 refine bJ rfl rfl rfl ?_ ?_
 intro g2_6
 refine aD rfl rfl rfl rfl (aD rfl rfl rfl rfl (aD rfl rfl rfl rfl (aD rfl rfl rfl rfl (a7 rfl (bI rfl rfl) (a7 rfl (ab rfl) (aD rfl rfl rfl rfl (aD rfl rfl rfl rfl (aD rfl rfl rfl rfl (aD rfl rfl rfl rfl (aD rfl rfl rfl rfl (a7 rfl (bI rfl rfl) (ac (a8 (cI rfl (aa (ae (a7 rfl (ag rfl) (ac (a8 (ao (aJ (ak (.inl rfl) (.cons (aj rfl) .nil) ?_))))))))))))))))))))))
 exact ⟨_, ⟨rfl, rfl⟩, inferInstance⟩
 intro g2_6
 refine a7 rfl (cC cR ce rfl rfl) ?_
 refine av rfl rfl ?_
 refine a7 rfl (ar rfl j9 rfl aC rfl (by first | exact Nat.zero_add _ | rfl)) ?_
 refine av rfl rfl (a7 rfl (ap aM rfl (az rfl)) ?_)
 refine av rfl rfl (ah rfl (aS lU rfl (kg ⟨cats, ga, gc, gl, ra, rc, rl, pa, pc, pl, some ⟨g, o, none⟩, nc, nl, sa, sc, sl, gate, quota⟩ q)) ?_)
 rintro _ B_ ⟨rfl, hB_⟩
 obtain rfl := hB_.symm
 rw [hw2]
 refine av rfl rfl (a7 rfl (bM rfl) (a7 rfl (aX rfl rfl) (a7 rfl (ab rfl) ?_)))
 refine bJ rfl rfl rfl ?_ ?_
 intro g2_13
 refine aD rfl rfl rfl rfl (aD rfl rfl rfl rfl (aD rfl rfl rfl rfl (aD rfl rfl rfl rfl (a7 rfl (bI rfl rfl) (ac (a8 (cI rfl (aa (ae (a7 rfl (ag rfl) (ac (a8 (ao (aJ (ak (.inl rfl) (.cons (aj rfl) .nil) ?_)))))))))))))))
 exact ⟨_, ⟨rfl, rfl⟩, inferInstance⟩
 intro g2_13
 exfalso; cases w1 <;> cases w2 <;> simp_all
 ⟩
def iH (c : Cfg) : Bool := decide (4 < c.nl.length) || fX (fun i => lq c (c.nl.getD i (0, 0))) c.nl.length
theorem A3 (W0 : World) (R : List HP) (c : Cfg) (hs : ∀ A, bU (bj W0 A) c.na 2 d5 c.nl) (hgs : ∀ A, bU (bj W0 A) c.ga 3 en c.gl) :
    ax Tryz.prog W0 116 [.agg (cF c).toArray] R (fun v B => ∃ r, v = .tuple #[.int .i64 r, .bool (iH c)] ∧ B = R) := by
 obtain ⟨w, hw⟩ : ∃ w, (fun i => lq c (c.nl.getD i (0, 0))) = w := ⟨_, rfl⟩
 have hG : iH c = (decide (4 < c.nl.length) || fX w c.nl.length) := by rw [iH, hw]
 refine aB func116 ntmps116 rfl rfl ?_
 refine aa (ae (ah rfl (bL rfl) ?_))
 rintro _ _ ⟨b1, rfl, rfl⟩
 refine a7 rfl (ag rfl) (a7 rfl (ag rfl) (ac (a8 (aa (aa (ae ?_))))))
 refine a7 rfl (ar rfl bW rfl jP rfl (by first | exact Nat.zero_add _ | rfl)) ?_
 refine a7 rfl (ap kF rfl (az rfl)) ?_
 refine a7 rfl (aY jQ rfl) (a7 rfl (cA rfl rfl) (ac (a8 ?_)))
 refine au rfl ?_ ?_
 intro c1
 refine aa (ae (a7 rfl (ag rfl) (a7 rfl (ag rfl) (ac (a8 (ao (aJ (ak (.inl rfl) (.cons (aj rfl) (.cons (aj rfl) .nil)) ?_))))))))
 rw [hG, decide_eq_true (by omega), Bool.true_or]
 exact ⟨_, ⟨0, rfl, rfl⟩, inferInstance⟩
 intro c1
 refine aA (a8 (aa (ae ?_)))
 refine a7 rfl (ar rfl bW rfl jP rfl (by first | exact Nat.zero_add _ | rfl)) ?_
 refine a7 rfl (ap kF rfl (az rfl)) ?_
 refine a7 rfl (aY jQ rfl) (a7 rfl (dz rfl rfl) ?_)
 refine ah rfl (aF nh rfl (oB W0 _ 253 [.pointer (some ⟨b1, 0, none⟩)] c.nl.length b1 _ w (hw ▸ A2 W0 b1 c hs hgs) (by omega))) ?_
 rintro _ B_ ⟨r, rfl, hB_⟩
 obtain rfl := hB_.symm
 refine a7 rfl (aW rfl rfl) (a7 rfl (aW rfl rfl) (a7 rfl (ag rfl) (a7 rfl (ag rfl) (ac (a8 (ao (ak (.inl rfl) (.cons (aj rfl) (.cons (aj rfl) .nil)) ?_)))))))
 rw [hG, decide_eq_false (by omega), Bool.false_or]
 exact ⟨_, ⟨r, rfl, rfl⟩, inferInstance⟩
def dR (c : Cfg) : Nat → Int
 | 0 => (c.nl.length : Int)
 | i + 1 => dR c i + ((c.gl.getD i (0, 0, 0)).2.1 + (c.gl.getD i (0, 0, 0)).2.2)
theorem uq {c : Cfg} (hb : ∀ g ∈ c.gl, 1 ≤ g.2.1 ∧ g.2.1 ≤ 8 ∧ 0 ≤ g.2.2 ∧ g.2.2 ≤ 8 - g.2.1) (hn : c.nl.length ≤ 4) : ∀ i, i ≤ c.gl.length → 0 ≤ dR c i ∧ dR c i ≤ 4 + 8 * i
 | 0, _ => by rw [dR]; omega
 | i + 1, hi => by
  obtain ⟨h1, h2⟩ := uq hb hn i (by omega)
  have := hb _ (List.getElem_mem (show i < c.gl.length by omega))
  rw [dR, show c.gl.getD i (0, 0, 0) = c.gl[i]'(by omega) by simp [List.getD, show i < c.gl.length by omega]]
  omega
theorem qX (W0 : World) (R : List HP) (c : Cfg) (hs : ∀ A, bU (bj W0 A) c.ga 3 en c.gl) (hb : ∀ g ∈ c.gl, 1 ≤ g.2.1 ∧ g.2.1 ≤ 8 ∧ 0 ≤ g.2.2 ∧ g.2.2 ≤ 8 - g.2.1) (hn : c.nl.length ≤ 4) (hg : c.gl.length ≤ 4) :
    ax Tryz.prog W0 119 [.agg (cF c).toArray] R (fun v B => v = .int .i64 (dR c c.gl.length) ∧ B = R) := by
 have hle := uq hb hn
 refine aB func119 ntmps119 rfl rfl ?_
 refine aa (ae (ah rfl (bL rfl) ?_))
 rintro _ _ ⟨b1, rfl, rfl⟩
 refine a7 rfl (ag rfl) (ac (a8 (aa (ae ?_))))
 refine a7 rfl (ar rfl bW rfl jP rfl (by first | exact Nat.zero_add _ | rfl)) ?_
 refine a7 rfl (ap kF rfl (az rfl)) ?_
 refine a7 rfl (aY jQ rfl) (a7 rfl (ag rfl) (ac (a8 (aa (aa (ae ?_))))))
 refine a7 rfl (ar rfl bW rfl eV rfl (by first | exact Nat.zero_add _ | rfl)) ?_
 refine a7 rfl (ap fq rfl (az rfl)) ?_
 refine a7 rfl (aY eA rfl) (a7 rfl (ab rfl) (ac (a8 (aP ?_))))
 refine bX (fun i : Nat => i ≤ c.gl.length) (fun i => [(3, .int .i64 (dR c i)), (10, .slice c.ga c.gl.length c.gc), (11, .int .i64 (c.gl.length : Nat)), (12, .int .i64 (i : Nat))]) (fun _ => R) (fun i => c.gl.length - i) 0 ?_ ?_ ?_ ?_
 exact Nat.zero_le _
 · repeat (first | exact aQ | refine aO rfl ?_)
 exact inferInstance
 intro i hi
 refine aa (ae (a7 rfl (aV rfl rfl) (ac (a8 (aa ?_)))))
 refine au rfl ?_ ?_
 intro c3
 refine aA (a8 (aa (aP (aa ?_))))
 have hi1 : i < c.gl.length := by omega
 obtain ⟨g, o, hga, hc⟩ := (hs R).at_ hi1
 obtain ⟨x, hx⟩ : ∃ x, c.gl[i] = x := ⟨_, rfl⟩
 rw [hx] at hc
 have hbx := hb _ (List.getElem_mem hi1)
 rw [hx] at hbx
 have hst : dR c (i + 1) = dR c i + (x.2.1 + x.2.2) := by rw [dR, show c.gl.getD i (0, 0, 0) = x by simp [List.getD, hi1, hx]]
 have hl1 := hle i hi
 rw [hga]
 refine ae ?_
 refine a7 rfl (bK eA gi rfl rfl rfl hi1 (by first | exact Nat.zero_add _ | rfl)) ?_
 refine a7 rfl (bN xb gi rfl hc.weak rfl) ?_
 refine ah rfl (cH pI) ?_
 rintro _ _ ⟨bx, rfl, rfl⟩
 refine bc (cD gi rfl rfl rfl rfl rfl) ?_
 rintro _ _ rfl
 refine ac (a8 (ae (a7 rfl (ab rfl) ?_)))
 refine a7 rfl (ar rfl gj rfl aC rfl (by first | exact Nat.zero_add _ | rfl)) ?_
 refine a7 rfl (ap aM rfl (az rfl)) ?_
 refine a7 rfl (ar rfl gj rfl aC rfl (by first | exact Nat.zero_add _ | rfl)) ?_
 refine a7 rfl (ap aM rfl (az rfl)) ?_
 refine a7 rfl (bz rfl rfl (aT (by omega))) ?_
 refine a7 rfl (bz rfl rfl (by rw [aT (by omega)]; exact hst.symm : IntKind.wrap .i64 (dR c i + (x.2.1 + x.2.2)) = dR c (i + 1))) ?_
 refine a7 rfl (ag rfl) (ac (bw (a8 (ae ?_))))
 refine a7 rfl (bz rfl rfl (by first | exact aT (by omega) | rfl)) ?_
 refine a7 rfl (ab rfl) (ac (a8 ?_))
 refine cg (i + 1) ?_ ?_ ?_ ?_
 omega
 omega
 · repeat (first | exact aQ | refine aO rfl ?_)
 exact inferInstance
 intro c3
 refine bF (aR (aR (bH (a8 (aa (ae (a7 rfl (ab rfl) (a7 rfl (ag rfl) (ac (a8 (ao (ak (.inl rfl) (.cons (aj rfl) .nil) ?_))))))))))))
 obtain rfl : i = c.gl.length := by omega
 exact ⟨_, ⟨rfl, rfl⟩, inferInstance⟩
section
variable {rd : Option Nat} {P : Program} {S : World → Prop} {W0 : World} {N : FSz} {Q : Exit → Act → World → Prop} {e : bq} {A B R R1 R2 : List HP} {ops : Array Oper} {rest : List Oper}
variable {op : Op} {ty t t' : TypeId} {pos : String} {af : Array Edge} {v u : Value} {d b off : Nat} {x y z : Operand} {l l' vs : List Value}
theorem oC {z : Array Value} {n : Nat} : (Builtin.zeroCells z n).toList.length = n * z.size := by simp [Builtin.zeroCells]
theorem A4 {E sz n k c by_ : Nat} {info : TypeInfo} {zz : Value} {an : Option Addr} {olds : List Value} {kk : Int} {kq kn : IntKind} (hu : P.underlying t = some (.slice E)) (htn : P.underlying t' = some (.int kn))
    (hi : P.info? E = some info) (hz : info.zero = some zz) (hsz : info.size = sz) (hby : info.bytes = by_) (hz1 : zz.cells.size = sz) (hsz0 : 0 < sz)
    (hx : ev e x = some (.slice an n c)) (hy : ev e y = some (.int kq kk)) (hk : kk = (k : Int)) (hold : (an = none ∧ olds = []) ∨ ∃ bx ox, an = some ⟨bx, ox, none⟩ ∧ cB (bj W0 A) bx ox olds) (hol : olds.length = n * sz)
    (h0 : 0 < k) (hg : c < n + k) (h63 : n + k ≤ maxLen) (hbig : (n + k) * by_ ≤ 140737488355328) :
    cQ P W0 N e A (.call { callee := .builtin .append, args := #[x, y], argTypes := #[t, t'] }) (fun v B => ∃ a' c' zs, v = .slice a' (n + k) c' ∧ zs.length = k * sz ∧ B = osl E sz v (olds ++ zs) :: A) := je fun a w dst ty pos af g hF hO => by
 subst hk
 subst hsz
 subst hby
 have hsmall : n + k ≤ 9223372036854775807 := by simp only [maxLen] at h63; omega
 have hfc : (Builtin.firstCells info.size n (.slice an n c)).run P w.drew = .ok olds.toArray w.drew := by
  rcases hold with ⟨rfl, rfl⟩ | ⟨bx, ox, rfl, hc⟩
  simp [Builtin.firstCells]
  exact run_firstCells_some (P := P) w.drew info.size n ⟨bx, ox, none⟩ n c olds hol (fun j u hj => by
   have := hc j u hj w hO
   simpa [eK] using this)
 have hbk : k * info.bytes ≤ 281474976710656 := by
  have := Nat.mul_le_mul_right info.bytes (show k ≤ n + k by omega); omega
 have hr := Go.Lib.run_append_grow_zeros (P := P) w t t' ty E info zz kq kn hu htn hi hz an n c olds hfc k h0 hsz0 hg (by omega) hbk (growslice_fits (by omega) hbig)
 have hge := grownCap_ge w (n + k) c E
 have hcm := grownCap_le_maxLen w (n + k) c E h63
 have hnew := (Own.drew hO (w.drawn + 1)).new (am ((olds ++ (Builtin.zeroCells zz.cells k).toList) ++ (Builtin.zeroCells zz.cells (grownCap w (n + k) c E - (n + k))).toList) E)
 have ea : ((olds ++ (Builtin.zeroCells zz.cells k).toList) ++ (Builtin.zeroCells zz.cells (grownCap w (n + k) c E - (n + k))).toList).toArray = olds.toArray ++ Builtin.zeroCells zz.cells k ++ Builtin.zeroCells zz.cells (grownCap w (n + k) c E - (n + k)) := by apply Array.ext'; simp
 refine ⟨_, { ({ w with drawn := w.drawn + 1 } : World) with heap := w.heap.push (am ((olds ++ (Builtin.zeroCells zz.cells k).toList) ++ (Builtin.zeroCells zz.cells (grownCap w (n + k) c E - (n + k))).toList) E) }, _, .inl ?_, ⟨some ⟨w.heap.size, 0, none⟩, grownCap w (n + k) c E, (Builtin.zeroCells zz.cells k).toList, rfl, by rw [oC, hz1], rfl⟩, ?_⟩
 simp only [execOp, resolve, invoke, builtin, Sem.run_bind, Sem.run_pure, Result.andThen_ok, List.map_toArray, List.map_cons, List.map_nil, hF.eval hx, hF.eval hy, hr]
 simp only [World.drew, World.alloc, am, ea]
 refine hnew.ent ?_
 exact @e7 _ A A E info.size w.heap.size (n + k) (grownCap w (n + k) c E) (olds ++ (Builtin.zeroCells zz.cells k).toList) _ _ hge hcm (by rw [List.length_append, hol, oC, hz1, Nat.add_mul]) (by
   rw [List.length_append, List.length_append, hol, oC, oC, hz1, ← Nat.add_mul, ← Nat.add_mul]; congr 1; omega) _
theorem A5 {f : FuncId} {xs : Array Operand} {ats : Array TypeId} (hx : dO e xs.toList = some vs) (hc : ∀ w, S w → (callFunc f vs.toArray).run P w = .ok (.value v) w) : bO P S N e (.call { callee := .value (.func f), args := xs, argTypes := ats }) v := fun a w dst ty pos af g hF hO => by
 rw [execOp_call_go]
 have he : (#[] ++ xs.map a.eval ++ #[] : Array Value) = vs.toArray := by
  have := hF.evals hx
  rw [← this]; apply Array.ext'; simp
 rw [he, hc w hO]
theorem A6 {n c : Nat} {a : Option Addr} (hu : P.underlying t = some (.slice d)) (hx : ev e x = some (.slice a n c)) : bO P S N e (.call { callee := .builtin .cap, args := #[x], argTypes := #[t] }) (.int .i64 (c : Nat)) := fun act w _ _ _ _ _ hF _ => by
 simp [execOp, resolve, invoke, builtin, hF.eval hx, Builtin.cap_, d8 hu, goInt]
theorem oD {p q s r : List Value} (h : q.length = r.length) : setR (p ++ q ++ s) p.length r = p ++ r ++ s := by
 rw [kY _ _ _ (by simp only [List.length_append]; omega), ← h, List.append_assoc p q s, List.take_left, ← List.drop_drop, List.drop_left, List.drop_left]
theorem ut {g o : Nat} {l1 l2 : List Value} (h : cB S g o (l1 ++ l2)) : cB S g o l1 := fun i v hi => h i v (by
  rw [List.getElem?_append_left (by
    rcases Nat.lt_or_ge i l1.length with q | q
    · exact q
    rw [List.getElem?_eq_none q] at hi; cases hi)]
  exact hi)
theorem A7 {g o : Nat} {l1 l2 : List Value} (h : cB S g o (l1 ++ l2)) : cB S g (o + l1.length) l2 := fun i v hi => by
 rw [Nat.add_assoc]
 exact h (l1.length + i) v (by rw [List.getElem?_append_right (by omega), Nat.add_sub_cancel_left]; exact hi)
theorem uu {l1 l2 l3 : List Value} {o : Nat} [h : Tk pt b A (am l ty) R] (hl : l = l1 ++ l2 ++ l3) (ho : l1.length = o) : cB (bj W0 A) b o l2 := by
 subst ho
 have h0 : cB (bj W0 A) b 0 (l1 ++ l2) := ut (l2 := l3) (by rw [← hl]; exact dK (ty := ty) (R := R) (h := h))
 have := A7 h0
 rwa [Nat.zero_add] at this
theorem A8 {E sz : Nat} {tS tR ba ga na ca nb cb oa ob : Nat} {la lb : List Value} {ta tb : TypeId} (ht : P.underlying tS = some (.slice E)) (hz : ∀ w, (sizeOf E).run P w = .ok sz w) [h1 : Tk pt ba A (am la ta) R1] [h2 : Tk pt ga R1 (am lb tb) R2] (hla : oa ≤ la.length) (hlb : 0 < lb.length) {w : World} (hO : Own W0 w A) :
    (Extern.SlicesOverlaps.overlaps #[tS, tS] #[tR] #[.slice (some ⟨ba, oa, none⟩) na ca, .slice (some ⟨ga, ob, none⟩) nb cb]).run P w = .ok (.bool false) w := by
 have hO1 := hO.tk (r := pt) (b := ba)
 have ha := hO1.has.2
 have hO2 := (hO1.drop).tk (r := pt) (b := ga)
 have hb := hO2.has.2
 have hne : ba ≠ ga := by
  intro q; subst q
  have hO3 : Own W0 w (pt ba (am la ta) :: pt ba (am lb tb) :: R2) := hO1.perm (h2.perm.cons _)
  obtain ⟨ls, ⟨l1, l2, rfl, e1, l3, l4, rfl, e2, _⟩, hn, _⟩ := hO3.owns
  cases e1; cases e2
  simp at hn
 refine Go.Lib.run_overlaps_apart w tS tR E ht sz hz ⟨ba, oa, none⟩ ⟨ga, ob, none⟩ na ca nb cb hne ta tb la.length lb.length ?_ ?_ (by omega) ?_ ?_
 simp [World.shape?, ha]
 simp [World.shape?, hb]
 simp [World.frozen?, ha]
 simp [World.frozen?, ha]
end
class NOut (Q : Exit → Act → World → Prop) : Prop where
  no : ∀ a w, ¬ Q .outgrown a w
instance Ff {n : Act → World → Prop} {Q : Exit → Act → World → Prop} [h : NOut Q] : NOut (Exit.then n Q) := ⟨fun a w k => h.no a w k⟩
instance Fg {id : Nat} {Q : Exit → Act → World → Prop} [h : NOut Q] : NOut (Exit.inBlock id Q) := ⟨fun a w k => h.no a w k⟩
instance Fh {Q : Exit → Act → World → Prop} [h : NOut Q] : NOut (Exit.noGoto Q) := ⟨fun a w k => h.no a w k⟩
instance Fi {P : Program} {W0 : World} {L : Nat} {Post : Value → List HP → Prop} : NOut (l7 P W0 L Post) := ⟨fun a w k => k⟩
instance Fj : NOut (fun _ _ _ => False) := ⟨fun a w k => k⟩
instance Fl {P : Program} {W0 : World} {L : Nat} {Post : Value → List HP → Prop} : POk (l7 P W0 L Post) := ⟨fun c a d v w k => k.elim⟩
instance Fo : POk (fun _ _ _ => False) := ⟨fun c a d v w k => k⟩
section
variable {rd : Option Nat} {P : Program} {W0 : World} {N : FSz} {Q : Exit → Act → World → Prop} {e : bq} {A : List HP} {ops : Array Oper} {S : World → Prop}
theorem oE (hp : jY rd ops.toList = true) (hq : NOut Q) : ∀ (fuel : Nat) (listed : Array Bool) (a : Act) (w : World), wpAnyH P .any ops Q S fuel listed a w → wpAnyIn (FW rd) 0 P .any ops Q fuel listed a w
 | 0, _, _, _, h => h
 | fuel + 1, listed, a, w, h => ⟨h.1, fun i hi => by
  have h2 := h.2 i hi
  unfold wpOp at h2
  unfold wpOpIn
  cases ho : ops[i]? with
  | none =>
   rw [ho] at h2
   exact oE hp hq fuel _ a w h2.2
  | some o =>
   rw [ho] at h2
   simp only at h2 ⊢
   split at h2
   rename_i hwant
   rw [if_pos hwant]
   rcases h2 with h2 | ⟨_, a', w', h3⟩
   have hsem : o.semAt (FW rd).round a.eval = execOp a.eval o := by
    cases rd with
    | none => rfl
    | some l =>
     refine Oper.semAt_eq _ _ _ (t1 ?_)
     simp only [jY, Option.isNone_some, Bool.false_or, List.all_eq_true] at hp
     exact hp _ (by
       obtain ⟨hlt, rfl⟩ := Array.getElem?_eq_some_iff.1 ho
       simp)
   refine ⟨fun _ _ => trivial, ?_⟩
   rw [hsem]
   exact t0 (fun a' w' h' => oE hp hq fuel _ a' w' h'.2) h2
   exact absurd h3 (hq.no a' w')
   rename_i hwant
   rw [if_neg hwant]
   exact ⟨fun _ _ => trivial, oE hp hq fuel _ _ w h2.2⟩⟩
theorem uv {id : Nat} (cs : List (Nat × Nat × List Value)) (n : Nat) (hm : P.follows .mixedOrders = true) (hn : Nat.beq ops.size n = true) [hq : NOut Q] (hS : ∀ w, Own W0 w A → SC cs w) (k : (∀ w, Own W0 w A → SC cs w) → aG W0 N (DR P ops Q cs n (Array.replicate n false)) e A) (hp : jY rd ops.toList = true := by rfl) : aG W0 N ((Code.region id ops true).wpR rd P Q) e A := by
 intro a w hF hO
 have : ops.size = n := Nat.eq_of_beq_eq_true hn
 subst this
 exact wpIn_region_any hm (oE hp hq _ _ _ _ (k hS a _ hF (hO.drew _)))
end
abbrev Rn := Int × Int × Int
def bA (x : Rn) : List Value := [.int .i64 x.1, .int .i64 x.2.1, .int .i64 x.2.2]
theorem iI (x : Rn) : (bA x).length = 3 := rfl
theorem qY (x : Rn) : e6 (bA x) = true := by simp [bA, e6, Value.oneCell']
theorem qZ (l : List Rn) : e6 (l.flatMap bA) = true := by
 induction l with
 | nil => rfl
 | cons x l ih =>
  rw [List.flatMap_cons, e6, List.all_append, Bool.and_eq_true]
  exact ⟨qY x, ih⟩
@[reducible] def eN (a : Option Addr) (k c : Nat) (n : Int) : Obj := am [.slice a k c, .int .i64 n, .bool true] 494
def eO (b : Nat) (x : List Rn × Int) : HP := chk (fun C => ∃ a c, C = [pt b (eN a x.1.length c x.2), osl 498 3 (.slice a x.1.length c) (x.1.flatMap bA)])
section
variable {W0 : World} {N : FSz} {K : Act → World → Prop} {e : bq} {A B R R1 R2 : List HP} {b n c : Nat} {x : List Rn × Int}
theorem uw [hk : Tk eO b A x R] (h : ∀ a c, aG W0 N K e (pt b (eN a x.1.length c x.2) :: osl 498 3 (.slice a x.1.length c) (x.1.flatMap bA) :: R)) : aG W0 N K e A :=
  eC (r := eO) (b := b) (jm fun C hC => by obtain ⟨a, c, rfl⟩ := hC; exact h a c)
theorem gy {rs : List Rn} {k m : Nat} {nn : Int} {a : Option Addr} {ys : List Value} [h1 : Tk pt b A (eN a k m nn) R1] [h2 : Tk (osl 498 3) (.slice a k m) R1 ys R2] (hk : k = rs.length) (hy : ys = rs.flatMap bA) [q : Ent R2 B] : Ent A (eO b (rs, nn) :: B) := by
 subst hk; subst hy
 exact (Ent.ofPerm (h1.perm.trans (h2.perm.cons _))).trans ((eX (R := R2) (C := [_, _]) ⟨a, m, rfl⟩).trans (Ent.cons q))
theorem A9 {α : Type} {E sz g c i : Nat} {f : α → List Value} {xs : List α} {x : α} {ys : List Value} [h : Tk (osl E sz) (.slice (some ⟨g, 0, none⟩) n c) A ys R] (hy : ys = xs.flatMap f) (hf : ∀ x, (f x).length = sz) (hz : 0 < sz) (hx : xs[i]? = some x) : cB (bj W0 A) g (i * sz) (f x) := by
 obtain ⟨b, off, e1, hc⟩ := zb (S := bj W0 A) (a := some ⟨g, 0, none⟩) (.inr ⟨g, rfl⟩) (za (E := E) (sz := sz) (n := n) (c := c) (ys := ys)) hf hy hz i x hx
 cases e1
 rw [Nat.zero_add] at hc; exact hc
end
theorem Aa (W0 : World) (b1 bt L : Nat) (rs : List Rn) (n : Int) (a : Option Addr) (c : Nat) (hl : rs.length ≤ 1000) (C : Nat → List HP) (I : Nat → Prop) (h0 : I 0) (Stop : List HP → Prop)
    (hr : ∀ i R, i < rs.length → I i → jn Tryz.prog W0 L [.int .i64 (i : Nat), .agg (bA (rs.getD i (0, 0, 0))).toArray] (C i ++ R) (fun v B => ∃ b B', v = .bool b ∧ B = B' ++ R ∧ ((b = true ∧ I (i + 1) ∧ B' = C (i + 1)) ∨ (b = false ∧ Stop B')))) :
    ax Tryz.prog W0 388 [.func (.yield L) #[] #[], .pointer (some ⟨b1, 0, none⟩)] (pt b1 (am [.pointer (some ⟨bt, 0, none⟩)] 410) :: pt bt (eN a rs.length c n) :: osl 498 3 (.slice a rs.length c) (rs.flatMap bA) :: C 0)
      (fun v B => v = .tuple #[] ∧ ∃ B', B = pt bt (eN a rs.length c n) :: osl 498 3 (.slice a rs.length c) (rs.flatMap bA) :: B' ∧ ((I rs.length ∧ B' = C rs.length) ∨ Stop B')) := by
 refine aB func388 ntmps388 rfl rfl ?_
 refine aa (ae (a7 rfl (ap xf rfl (az rfl)) ?_))
 refine a7 rfl (aI rfl) ?_
 refine a7 rfl (ar rfl jR rfl ni rfl (by first | exact Nat.zero_add _ | rfl)) ?_
 refine a7 rfl (ap xg rfl (az rfl)) ?_
 refine a7 rfl (aY dJ rfl) (a7 rfl (ab rfl) (ac (a8 (aP ?_))))
 refine bX (fun i : Nat => i ≤ rs.length ∧ I i) (fun i => [(0, .func (.yield L) #[] #[]), (8, .slice a rs.length c), (9, .int .i64 (rs.length : Nat)), (10, .int .i64 (i : Nat))]) (fun i => pt bt (eN a rs.length c n) :: osl 498 3 (.slice a rs.length c) (rs.flatMap bA) :: C i) (fun i => rs.length - i) 0 ?_ ?_ ?_ ?_
 exact ⟨Nat.zero_le _, h0⟩
 · repeat (first | exact aQ | refine aO rfl ?_)
 exact inferInstance
 intro i ⟨hi, hI⟩
 refine aa (ae (a7 rfl (aV rfl rfl) (ac (a8 (aa ?_)))))
 refine au rfl ?_ ?_
 intro c1
 refine aA (a8 (aa (aP (aa ?_))))
 have hi1 : i < rs.length := by omega
 have hgi : rs[i]? = some (rs.getD i (0, 0, 0)) := by simp [List.getD, hi1]
 refine z9 (E := 498) (sz := 3) (a := a) (c := c) (n := rs.length) (ys := rs.flatMap bA) (fun hf => ?_)
 obtain ⟨g, rfl⟩ := zj hf (by rw [← List.length_pos_iff, cV iI]; omega)
 refine ae (a7 rfl (ab rfl) ?_)
 refine a7 rfl (bK dJ dW rfl rfl rfl hi1 (by first | exact Nat.zero_add _ | rfl)) ?_
 refine a7 rfl (bN sj dW rfl (A9 (f := bA) (E := 498) (sz := 3) (n := rs.length) (c := c) rfl iI (by decide) hgi) rfl) ?_
 refine ah rfl (cH pK) ?_
 rintro _ _ ⟨b1, rfl, rfl⟩
 refine a7 rfl (ag rfl) (bc (cD dW rfl rfl rfl rfl rfl) ?_)
 rintro _ _ rfl
 refine ac (a8 (aa (ae (a7 rfl (ab rfl) (a7 rfl (ab rfl) (a7 rfl (cC sj dW rfl rfl) ?_))))))
 refine tx rfl rfl rfl (u1 (List.perm_append_comm (l₁ := [_, _, _])) (hr i [_, _, _] hi1 hI)) ?_
 rintro _ B_ ⟨b, B', rfl, hB_, hb⟩
 obtain rfl := hB_.symm
 refine m0 List.perm_append_comm ?_
 simp only [List.cons_append, List.nil_append]
 refine a7 rfl (bM rfl) (ac (a8 ?_))
 refine au rfl ?_ ?_
 intro c3
 have hs : Stop B' := by
  rcases hb with h | h
  exact absurd c3 (by rw [h.1]; decide)
  exact h.2
 refine ao (be (aJ (aJ (be (ak (.inl rfl) .nil ?_)))))
 exact ⟨_, ⟨rfl, _, rfl, .inr hs⟩, inferInstance⟩
 intro c3
 have hs : I (i + 1) ∧ B' = C (i + 1) := by
  rcases hb with h | h
  exact h.2
  exact absurd (by rw [h.1]; decide) c3
 obtain ⟨hI', rfl⟩ := hs
 refine aA (bw (a8 (ae ?_)))
 refine a7 rfl (bz rfl rfl (by first | exact aT (by omega) | rfl)) ?_
 refine a7 rfl (ab rfl) (ac (a8 ?_))
 refine cg (i + 1) ?_ ?_ ?_ ?_
 exact ⟨by omega, hI'⟩
 omega
 · repeat (first | exact aQ | refine aO rfl ?_)
 exact inferInstance
 intro c1
 refine bF (aR (aR (bH (ak (.inr rfl) .nil ?_))))
 obtain rfl : i = rs.length := by omega
 exact ⟨_, ⟨rfl, _, rfl, .inl ⟨hI, rfl⟩⟩, inferInstance⟩
theorem ux (W0 : World) (R : List HP) (bt : Nat) :
    ax Tryz.prog W0 358 [.pointer (some ⟨bt, 0, none⟩)] R (fun v B => ∃ b1, v = .func (.func 388) #[] #[.pointer (some ⟨b1, 0, none⟩)] ∧ B = pt b1 (am [.pointer (some ⟨bt, 0, none⟩)] 410) :: R) := by
 refine aB func358 ntmps358 rfl rfl ?_
 refine aa (ae (ah rfl (eW rfl rfl) ?_))
 rintro _ _ ⟨b1, rfl, rfl⟩
 refine a7 rfl (ag rfl) (ac (a8 (aa (ae (a7 rfl (dz rfl rfl) ?_)))))
 refine a7 rfl (ag rfl) (ac (a8 (ao (ak (.inl rfl) (.cons (aj rfl) .nil) ?_))))
 exact ⟨_, ⟨b1, rfl, rfl⟩, inferInstance⟩
theorem uy {W0 : World} {A : List HP} {e : bq} {n' L D b1 bt c : Nat} {n : Int} {a : Option Addr} {ps' : Array Tmp} {asg body : Code} (pe : Code) {Go Stop : List HP → Prop} (rs : List Rn) (hl : rs.length ≤ 1000) (Ct : Nat → List HP) (I : Nat → Prop) (St : List HP → Prop)
    (hp : A.Perm (pt b1 (am [.pointer (some ⟨bt, 0, none⟩)] 410) :: pt bt (eN a rs.length c n) :: osl 498 3 (.slice a rs.length c) (rs.flatMap bA) :: Ct 0)) (h0 : I 0)
    (hgo : I rs.length → Go (pt bt (eN a rs.length c n) :: osl 498 3 (.slice a rs.length c) (rs.flatMap bA) :: Ct rs.length))
    (hst : ∀ B', St B' → Stop (pt bt (eN a rs.length c n) :: osl 498 3 (.slice a rs.length c) (rs.flatMap bA) :: B'))
    (hrd : ∀ i R', i < rs.length → I i → jn Tryz.prog W0 L [.int .i64 (i : Nat), .agg (bA (rs.getD i (0, 0, 0))).toArray] (cJ L ⟨e, n', ps', asg, body, .ready, none, D⟩ :: pt D (.deferred (some [])) :: (Ct i ++ R'))
      (fun v B => (v = .bool true ∧ I (i + 1) ∧ B = cJ L ⟨e, n', ps', asg, body, .ready, none, D⟩ :: pt D (.deferred (some [])) :: (Ct (i + 1) ++ R')) ∨
        (v = .bool false ∧ ∃ B', St B' ∧ B = cJ L ⟨e, n', ps', asg, body, .done, some pe, D⟩ :: pt D (.deferred (some [])) :: (B' ++ R')))) :
    ax Tryz.prog W0 388 (.func (.yield L) #[] #[] :: [.pointer (some ⟨b1, 0, none⟩)]) (cJ L ⟨e, n', ps', asg, body, .ready, none, D⟩ :: pt D (.deferred (some [])) :: A)
      (fun _ B => (∃ C, B = cJ L ⟨e, n', ps', asg, body, .ready, none, D⟩ :: pt D (.deferred (some [])) :: C ∧ Go C) ∨ (∃ C, B = cJ L ⟨e, n', ps', asg, body, .done, some pe, D⟩ :: pt D (.deferred (some [])) :: C ∧ Stop C)) := by
 have hperm : (cJ L ⟨e, n', ps', asg, body, .ready, none, D⟩ :: pt D (.deferred (some [])) :: A).Perm (pt b1 (am [.pointer (some ⟨bt, 0, none⟩)] 410) :: pt bt (eN a rs.length c n) :: osl 498 3 (.slice a rs.length c) (rs.flatMap bA) :: (cJ L ⟨e, n', ps', asg, body, .ready, none, D⟩ :: pt D (.deferred (some [])) :: Ct 0)) :=
   ((hp.cons _).cons _).trans (List.perm_append_comm_assoc [_, _] [_, _, _] (Ct 0))
 refine k7 hperm (nU (Aa W0 b1 bt L rs n a c hl (fun i => cJ L ⟨e, n', ps', asg, body, .ready, none, D⟩ :: pt D (.deferred (some [])) :: Ct i) I h0
   (fun B => ∃ B', St B' ∧ B = cJ L ⟨e, n', ps', asg, body, .done, some pe, D⟩ :: pt D (.deferred (some [])) :: B') fun i R hat hI w hO => ?_) ?_)
 obtain ⟨f, tmps, as_, bd, hy, hR⟩ := hrd i R hat hI w hO
 refine ⟨f, tmps, as_, bd, hy, RoundIn.mono hR ?_⟩
 rintro _ w' ⟨v, B, rfl, hB, hO'⟩
 rcases hB with ⟨rfl, hI', rfl⟩ | ⟨rfl, B', hS, rfl⟩
 exact ⟨_, _, rfl, ⟨true, _, rfl, rfl, .inl ⟨rfl, hI', rfl⟩⟩, hO'⟩
 exact ⟨_, _, rfl, ⟨false, cJ L ⟨e, n', ps', asg, body, .done, some pe, D⟩ :: pt D (.deferred (some [])) :: B', rfl, rfl, .inr ⟨rfl, B', hS, rfl⟩⟩, hO'⟩
 rintro v B ⟨_, B0, rfl, ⟨hI, rfl⟩ | ⟨B', hS, rfl⟩⟩
 exact ⟨_, .inl ⟨_, rfl, hgo hI⟩, Ent.ofPerm (List.perm_append_comm_assoc [_, _] [_, _] (Ct rs.length))⟩
 exact ⟨_, .inr ⟨_, rfl, hst B' hS⟩, Ent.ofPerm (List.perm_append_comm_assoc [_, _] [_, _] B')⟩
theorem uz (x : Rn) (h : -1000 ≤ x.1 + x.2.1 ∧ x.1 + x.2.1 ≤ 1000) : ax Tryz.prog W0 359 [.agg (bA x).toArray] R (fun v B => v = .int .i64 (x.1 + x.2.1) ∧ B = R) := by
 refine aB func359 ntmps359 rfl rfl ?_
 refine aa (ae (ah rfl (bL rfl) ?_))
 rintro _ _ ⟨b1, rfl, rfl⟩
 refine a7 rfl (ag rfl) (ac (a8 (aa (ae ?_))))
 refine a7 rfl (ar rfl nj rfl aC rfl (by first | exact Nat.zero_add _ | rfl)) ?_
 refine a7 rfl (ap aM rfl (az rfl)) ?_
 refine a7 rfl (ar rfl nj rfl aC rfl (by first | exact Nat.zero_add _ | rfl)) ?_
 refine a7 rfl (ap aM rfl (az rfl)) ?_
 refine a7 rfl (bz rfl rfl (aT (by omega))) ?_
 refine a7 rfl (ag rfl) (ac (a8 (ao (ak (.inl rfl) (.cons (aj rfl) .nil) ?_))))
 exact ⟨_, ⟨rfl, rfl⟩, inferInstance⟩
def eP : List Rn → Int → Nat
 | [], _ => 0
 | x :: l, f => if x.1 + x.2.1 ≤ f then eP l f + 1 else 0
def iJ (rs : List Rn) (f n : Int) : Bool := match rs[eP rs f]? with
 | some x => decide (x.1 < f + n)
 | none => false
theorem r0 : ∀ (rs : List Rn) (f : Int) (i : Nat), i ≤ rs.length → (∀ j (hj : j < rs.length), j < i → rs[j].1 + rs[j].2.1 ≤ f) → (∀ h : i < rs.length, ¬ rs[i].1 + rs[i].2.1 ≤ f) → eP rs f = i
 | [], f, i, h, _, _ => by simp at h; rw [eP, h]
 | x :: l, f, 0, _, _, h2 => by
  have := h2 (by simp)
  rw [eP, if_neg (by simpa using this)]
 | x :: l, f, i + 1, h, h1, h2 => by
  have h0 := h1 0 (by simp) (by omega)
  rw [eP, if_pos (by simpa using h0), r0 l f i (by simpa using h) (fun j hj hji => by
   have := h1 (j + 1) (by simpa using hj) (by omega)
   simpa using this) (fun hi => by
   have := h2 (by simpa using hi)
   simpa using this)]
theorem r9 : ∀ (rs : List Rn) (f : Int), eP rs f ≤ rs.length
 | [], f => Nat.le_refl _
 | x :: l, f => by
  have := r9 l f
  rw [eP]; split
  simpa using this
  exact Nat.zero_le _
def iK (rs : List Rn) : Prop := ∀ x ∈ rs, 0 ≤ x.1 ∧ 1 ≤ x.2.1 ∧ x.1 + x.2.1 ≤ 64 ∧ 0 ≤ x.2.2 ∧ x.2.2 < 64
theorem iK.get {rs : List Rn} (h : iK rs) {i : Nat} (hi : i < rs.length) : 0 ≤ (rs.getD i (0, 0, 0)).1 ∧ 1 ≤ (rs.getD i (0, 0, 0)).2.1 ∧ (rs.getD i (0, 0, 0)).1 + (rs.getD i (0, 0, 0)).2.1 ≤ 64 ∧ 0 ≤ (rs.getD i (0, 0, 0)).2.2 ∧ (rs.getD i (0, 0, 0)).2.2 < 64 := by
 rw [show rs.getD i (0, 0, 0) = rs[i] by simp [List.getD, hi]]; exact h _ (List.getElem_mem hi)
theorem uA (b k c : Nat) (a : Option Addr) (n : Int) : ax Tryz.prog W0 335 [.pointer (some ⟨b, 0, none⟩)] (pt b (eN a k c n) :: R) (fun v B => v = .bool false ∧ B = pt b (eN a k c n) :: R) := by
 refine aB func335 ntmps335 rfl rfl ?_
 refine aa (ae (a7 rfl (ag rfl) (ac (a8 (aa (ae (a7 rfl (ab rfl) (a7 rfl (dx underlying410 rfl rfl) (a7 rfl (ab rfl) ?_)))))))))
 refine bJ rfl rfl rfl ?_ ?_
 intro g1_3
 cases g1_3
 intro g1_3
 refine a7 rfl (ab rfl) (av rfl rfl (a7 rfl (aI rfl) (av rfl rfl ?_)))
 refine a7 rfl (ar rfl jR rfl cy rfl (by first | exact Nat.zero_add _ | rfl)) ?_
 refine av rfl rfl (a7 rfl (ap gd rfl (az rfl)) ?_)
 refine av rfl rfl (a7 rfl (bM rfl) (a7 rfl (aX rfl rfl) (a7 rfl (ag rfl) (ac (a8 (ao (ak (.inl rfl) (.cons (aj rfl) .nil) ?_)))))))
 exact ⟨_, ⟨rfl, rfl⟩, inferInstance⟩
theorem uB (n : Int) (h : 0 ≤ n ∧ n ≤ 64) : ax Tryz.prog W0 247 [.int .i64 n] R (fun v B => ∃ b, v = .tuple #[.pointer (some ⟨b, 0, none⟩), .int .i64 0] ∧ B = eO b ([], n) :: R) := by
 refine aB func247 ntmps247 rfl rfl ?_
 refine aa (ae (a7 rfl (ag rfl) (a7 rfl (ag rfl) (ac (a8 (aa (aa (ae (a7 rfl (ab rfl) (a7 rfl (aV rfl rfl) (a7 rfl (ab rfl) ?_)))))))))))
 refine bJ rfl rfl rfl ?_ ?_
 intro g1_3
 omega
 intro g1_3
 refine a7 rfl (ab rfl) (av rfl rfl (a7 rfl (cA rfl rfl) (a7 rfl (aX rfl rfl) (ac (a8 ?_)))))
 refine au rfl ?_ ?_
 intro c1
 omega
 intro c1
 refine aA (a8 (aa (ae (a7 rfl (ab rfl) (a7 rfl (cq jR zeroValue494 (aK ni (aK aC (aK cy cp))) (bB rfl aC rfl rfl (Nat.le_of_ble_eq_true rfl) SetL.eq (bB rfl cy rfl rfl (Nat.le_of_ble_eq_true rfl) SetL.eq co))) ?_)))))
 refine ah rfl (bL rfl) ?_
 rintro _ _ ⟨b1, rfl, rfl⟩
 refine a7 rfl (ag rfl) (a7 rfl (ag rfl) (ac (a8 (ao (ak (.inl rfl) (.cons (aj rfl) (.cons (aj rfl) .nil)) ?_)))))
 refine ⟨_, ⟨b1, rfl, rfl⟩, ?_⟩
 exact (Ent.cons (dZ (E := 498) (sz := 3) (B := R))).trans (gy (rs := []) rfl rfl)
theorem Ab (W0 : World) (R : List HP) (bt c : Nat) (rs : List Rn) (n : Int) (a : Option Addr) (hok : iK rs) (hl : rs.length ≤ 1000) (f k : Int) (hf : 0 ≤ f ∧ f ≤ 64 ∧ 1 ≤ k ∧ k ≤ 64) :
    ax Tryz.prog W0 336 [.pointer (some ⟨bt, 0, none⟩), .int .i64 f, .int .i64 k] (pt bt (eN a rs.length c n) :: osl 498 3 (.slice a rs.length c) (rs.flatMap bA) :: R)
      (fun v B => v = .tuple #[.int .i64 (eP rs f : Nat), .bool (iJ rs f k)] ∧ B = pt bt (eN a rs.length c n) :: osl 498 3 (.slice a rs.length c) (rs.flatMap bA) :: R) := by
 refine aB func336 ntmps336 rfl rfl ?_
 refine aa (ae (ah rfl (eW rfl rfl) ?_))
 rintro _ _ ⟨bf, rfl, rfl⟩
 refine ah rfl (eW rfl rfl) ?_
 rintro _ _ ⟨bk, rfl, rfl⟩
 refine a7 rfl (ag rfl) (a7 rfl (ag rfl) (ac (a8 (u7 (aa (ae (a7 rfl (ab rfl) (a7 rfl (aI rfl) ?_))))))))
 refine a7 rfl (ar rfl jR rfl ni rfl (by first | exact Nat.zero_add _ | rfl)) ?_
 refine a7 rfl (ap xg rfl (az rfl)) ?_
 refine a7 rfl (aY dJ rfl) (ah rfl (ia f9 rfl) ?_)
 rintro _ _ ⟨ba, rfl, rfl⟩
 refine ah rfl (ia zeroValue4 rfl) ?_
 rintro _ _ ⟨bh, rfl, rfl⟩
 refine bc (ck aC rfl rfl rfl (Nat.le_of_ble_eq_true rfl) SetL.eq) ?_
 rintro _ _ rfl
 refine bc (ck cy rfl rfl rfl (Nat.le_of_ble_eq_true rfl) SetL.eq) ?_
 rintro _ _ rfl
 refine ac (a8 (aa (t4 (a8 (aa (aa (ae (a7 rfl (ab rfl) (ah rfl (aS call358 rfl (ux W0 _ bt)) ?_)))))))))
 rintro _ B_ ⟨b1, rfl, hB_⟩
 obtain rfl := hB_.symm
 refine ac (a8 (aP ?_))
 refine zh 0 (fun C => (∀ j, j < rs.length → (rs.getD j (0, 0, 0)).1 + (rs.getD j (0, 0, 0)).2.1 ≤ f) ∧ C = pt bt (eN a rs.length c n) :: osl 498 3 (.slice a rs.length c) (rs.flatMap bA) :: pt bh (am [.bool false] 4) :: pt ba (am [.int .i64 (rs.length : Nat)] 3) :: pt bk (am [.int .i64 k] 3) :: pt bf (am [.int .i64 f] 3) :: R) (fun C => ∃ i, i < rs.length ∧ (∀ j, j < i → (rs.getD j (0, 0, 0)).1 + (rs.getD j (0, 0, 0)).2.1 ≤ f) ∧ (¬ (rs.getD i (0, 0, 0)).1 + (rs.getD i (0, 0, 0)).2.1 ≤ f) ∧ C = pt bt (eN a rs.length c n) :: osl 498 3 (.slice a rs.length c) (rs.flatMap bA) :: pt bh (am [.bool (decide ((rs.getD i (0, 0, 0)).1 < f + k))] 4) :: pt ba (am [.int .i64 (i : Nat)] 3) :: pt bk (am [.int .i64 k] 3) :: pt bf (am [.int .i64 f] 3) :: R) rfl call388 ?_ ?_ ?_
 intro L D
 refine uy (.exit 0) rs hl (fun _ => pt bh (am [.bool false] 4) :: pt ba (am [.int .i64 (rs.length : Nat)] 3) :: pt bk (am [.int .i64 k] 3) :: pt bf (am [.int .i64 f] 3) :: R) (fun i => ∀ j, j < i → (rs.getD j (0, 0, 0)).1 + (rs.getD j (0, 0, 0)).2.1 ≤ f) (fun B => ∃ i, i < rs.length ∧ (∀ j, j < i → (rs.getD j (0, 0, 0)).1 + (rs.getD j (0, 0, 0)).2.1 ≤ f) ∧ (¬ (rs.getD i (0, 0, 0)).1 + (rs.getD i (0, 0, 0)).2.1 ≤ f) ∧ B = pt bh (am [.bool (decide ((rs.getD i (0, 0, 0)).1 < f + k))] 4) :: pt ba (am [.int .i64 (i : Nat)] 3) :: pt bk (am [.int .i64 k] 3) :: pt bf (am [.int .i64 f] 3) :: R) ((od (r1 := pt) (b1 := b1) (r2 := pt) (b2 := bt) (r3 := osl 498 3) (b3 := .slice a rs.length c)).trans (List.Perm.refl _)) (fun j hj => absurd hj (Nat.not_lt_zero j)) (fun h => ⟨h, rfl⟩) (fun B' h => by obtain ⟨i, h1, h2, h3, rfl⟩ := h; exact ⟨i, h1, h2, h3, rfl⟩) ?_
 intro i R' hi hI
 have hx := hok.get hi
 obtain ⟨x, hxe⟩ : ∃ x, rs.getD i (0, 0, 0) = x := ⟨_, rfl⟩
 rw [hxe] at hx ⊢
 simp only [List.cons_append, List.nil_append]
 refine qo rfl rfl ?_
 refine aa (ae (a7 rfl (ag rfl) (ac (a8 (ae (ah rfl (cH pK) ?_))))))
 rintro _ _ ⟨bd, rfl, rfl⟩
 refine bc (cD dW rfl rfl rfl rfl rfl) ?_
 rintro _ _ rfl
 refine ac (qn rfl ?_)
 refine aP (aa (aP (aa ?_)))
 refine uv [(bd, 0, _), (bf, 0, _)] 5 d4 rfl (aE (aE aH)) (fun hS => ?_)
 refine ai 0 rfl rfl (by kernel_rfl) (by kernel_rfl) (by kernel_rfl) rfl hS (bN sj dW rfl (by first | exact ee (k := 0) rfl | exact ee (k := 1) rfl) rfl) ?_
 refine ai 2 rfl rfl (by kernel_rfl) (by kernel_rfl) (by kernel_rfl) rfl hS (ap aM rfl (by first | exact aU (k := 0) rfl rfl | exact aU (k := 1) rfl rfl)) ?_
 refine b0 1 (by kernel_rfl) rfl rfl (aS call359 rfl (uz x (by omega))) rfl ?_; clear hS
 rintro _ B_ ⟨rfl, hB_⟩
 obtain rfl := hB_.symm
 refine ⟨(aE (aE aH)), fun hS => ?_⟩
 refine ai 3 rfl rfl (by kernel_rfl) (by kernel_rfl) (by kernel_rfl) rfl hS (iU rfl rfl) ?_
 refine ai 4 rfl rfl (by kernel_rfl) (by kernel_rfl) (by kernel_rfl) rfl hS (ag rfl) ?_
 refine cm (by kernel_rfl) ?_; clear hS
 refine a8 ?_
 refine au rfl ?_ ?_
 intro c5
 refine bF (dY rfl (aR (bH (nV ?_))))
 have hI' : ∀ j, j < i + 1 → (rs.getD j (0, 0, 0)).1 + (rs.getD j (0, 0, 0)).2.1 ≤ f := fun j hj => by
  rcases Nat.lt_or_ge j i with q | q
  exact hI j q
  obtain rfl : j = i := by omega
  rw [hxe]; exact c5
 exact ⟨_, .inl ⟨rfl, hI', rfl⟩, inferInstance⟩
 intro c5
 refine aa (ae ?_)
 refine a7 rfl (ar rfl nj rfl aC rfl (by first | exact Nat.zero_add _ | rfl)) ?_
 refine a7 rfl (ap aM rfl (az rfl)) ?_
 refine a7 rfl (ap aM rfl (az rfl)) ?_
 refine a7 rfl (ap aM rfl (az rfl)) ?_
 refine a7 rfl (bz rfl rfl (aT (by omega))) ?_
 refine a7 rfl (aV rfl rfl) (a7 rfl (ag rfl) (ac (a8 ?_)))
 refine au rfl ?_ ?_
 intro c6
 refine ae (bc (ck cy rfl rfl rfl (Nat.le_of_ble_eq_true rfl) SetL.eq) ?_)
 rintro _ _ rfl
 refine ac (bw (a8 (aa (ae (a7 rfl (ab rfl) (bc (ck aC rfl rfl rfl (Nat.le_of_ble_eq_true rfl) SetL.eq) ?_))))))
 rintro _ _ rfl
 refine ac (a8 (bF (dY rfl (u9 ?_))))
 refine ⟨_, .inr ⟨rfl, _, ⟨i, hi, hI, by rw [hxe]; exact c5, rfl⟩, rfl⟩, ?_⟩
 simp only [List.cons_append]
 rw [hxe]
 first
   | (rw [decide_eq_true c6]; exact inferInstance)
   | (rw [decide_eq_false c6]; exact inferInstance)
 intro c6
 refine aA (bw (a8 (aa (ae (a7 rfl (ab rfl) (bc (ck aC rfl rfl rfl (Nat.le_of_ble_eq_true rfl) SetL.eq) ?_))))))
 rintro _ _ rfl
 refine ac (a8 (bF (dY rfl (u9 ?_))))
 refine ⟨_, .inr ⟨rfl, _, ⟨i, hi, hI, by rw [hxe]; exact c5, rfl⟩, rfl⟩, ?_⟩
 simp only [List.cons_append]
 rw [hxe]
 first
   | (rw [decide_eq_true c6]; exact inferInstance)
   | (rw [decide_eq_false c6]; exact inferInstance)
 intro D C hC
 obtain ⟨hall, rfl⟩ := hC
 have hA : eP rs f = rs.length := r0 rs f rs.length (Nat.le_refl _) (fun j hj _ => by have := hall j hj; rwa [show rs.getD j (0, 0, 0) = rs[j] by simp [List.getD, hj]] at this) (fun h => absurd h (Nat.lt_irrefl _))
 have hH : iJ rs f k = false := by rw [iJ, hA, List.getElem?_eq_none (Nat.le_refl _)]
 refine bw (a8 (aa ?_))
 refine di [(ba, 0, _), (bh, 0, _)] 4 d4 rfl (aE (aE aH)) (fun hS => ?_)
 refine ai 0 rfl rfl (by kernel_rfl) (by kernel_rfl) (by kernel_rfl) rfl hS (ap aM rfl (by first | exact aU (k := 0) rfl rfl | exact aU (k := 1) rfl rfl)) ?_
 refine ai 1 rfl rfl (by kernel_rfl) (by kernel_rfl) (by kernel_rfl) rfl hS (ap gd rfl (by first | exact aU (k := 0) rfl rfl | exact aU (k := 1) rfl rfl)) ?_
 refine ai 2 rfl rfl (by kernel_rfl) (by kernel_rfl) (by kernel_rfl) rfl hS (ag rfl) ?_
 refine ai 3 rfl rfl (by kernel_rfl) (by kernel_rfl) (by kernel_rfl) rfl hS (ag rfl) ?_
 refine cm (by kernel_rfl) ?_; clear hS
 refine a8 (ao (kc (m7 (.inl rfl) (.cons (aj rfl) (.cons (aj rfl) .nil)) ?_)))
 rw [hA, hH]
 exact ⟨_, ⟨rfl, rfl⟩, inferInstance⟩
 intro D C hC
 obtain ⟨i, hi, h1, h2, rfl⟩ := hC
 have hgi : rs.getD i (0, 0, 0) = rs[i] := by simp [List.getD, hi]
 have hA : eP rs f = i := r0 rs f i (by omega) (fun j hj hji => by have := h1 j hji; rwa [show rs.getD j (0, 0, 0) = rs[j] by simp [List.getD, hj]] at this) (fun h => by rw [← hgi]; exact h2)
 have hH : iJ rs f k = decide ((rs.getD i (0, 0, 0)).1 < f + k) := by rw [iJ, hA, List.getElem?_eq_getElem hi, hgi]
 refine bH (a8 (aa ?_))
 refine di [(ba, 0, _), (bh, 0, _)] 4 d4 rfl (aE (aE aH)) (fun hS => ?_)
 refine ai 0 rfl rfl (by kernel_rfl) (by kernel_rfl) (by kernel_rfl) rfl hS (ap aM rfl (by first | exact aU (k := 0) rfl rfl | exact aU (k := 1) rfl rfl)) ?_
 refine ai 1 rfl rfl (by kernel_rfl) (by kernel_rfl) (by kernel_rfl) rfl hS (ap gd rfl (by first | exact aU (k := 0) rfl rfl | exact aU (k := 1) rfl rfl)) ?_
 refine ai 2 rfl rfl (by kernel_rfl) (by kernel_rfl) (by kernel_rfl) rfl hS (ag rfl) ?_
 refine ai 3 rfl rfl (by kernel_rfl) (by kernel_rfl) (by kernel_rfl) rfl hS (ag rfl) ?_
 refine cm (by kernel_rfl) ?_; clear hS
 refine a8 (ao (kc (m7 (.inl rfl) (.cons (aj rfl) (.cons (aj rfl) .nil)) ?_)))
 rw [hA, hH]
 exact ⟨_, ⟨rfl, rfl⟩, inferInstance⟩
theorem Ac (l : List Rn) (a : Option Addr) (n c : Nat) (hl : l.length = n) (hN : n ≤ 1000) (hs : bU (bj W0 R) a 3 bA l) :
    ax Tryz.prog W0 338 [.slice a n c] R
      (fun v B => ∃ a' c', v = .slice a' n c' ∧ B = osl 498 3 (.slice a' n c') (l.flatMap bA) :: R) := by
 subst hl
 refine aB func338 ntmps338 rfl rfl ?_
 refine aa (ae (a7 rfl (ag rfl) (ac (a8 (aa (aa (ae (a7 rfl (ab rfl) (a7 rfl (nW dJ rfl rfl) (ac (a8 ?_)))))))))))
 refine au rfl ?_ ?_
 intro c1
 refine aa (ae (a7 rfl (ag rfl) (ac (a8 (ao (aJ (ak (.inl rfl) (.cons (aj rfl) .nil) ?_)))))))
 have h0 : l = [] := by
  rcases l with _ | ⟨x, l⟩
  rfl
  obtain ⟨b, o, h, _⟩ := hs 0 x rfl
  rw [c1] at h; cases h
 subst h0
 exact ⟨_, ⟨none, 0, rfl, rfl⟩, dZ⟩
 intro c1
 have hsrc := hs.src (fun _ => rfl) (fun _ => trivial)
 refine aA (a8 (aa (ae (ah rfl (qq dJ dW rfl) ?_))))
 rintro _ _ ⟨b1, rfl, rfl⟩
 refine a7 rfl (ab rfl) ?_
 refine ah rfl (qR (sz := 3) (by_ := 24) (info := Tryz.t498) dJ (by kernel_rfl) rfl rfl rfl rfl (by decide) rfl rfl (news := l.flatMap bA) (by
 rcases hsrc with h | ⟨bs, os, h1, h2⟩
 left; rw [h]; rfl
 right; exact ⟨bs, os, h1, h2.weak⟩) (by rw [cV iI]) (qZ l) (by simp only [maxLen]; omega) (by omega)) ?_
 rintro _ _ ⟨a1, c1, rfl, rfl⟩
 refine a7 rfl (ag rfl) (ac (a8 (ao (ak (.inl rfl) (.cons (aj rfl) .nil) ?_))))
 rw [Nat.zero_add, List.nil_append]
 exact ⟨_, ⟨a1, c1, rfl, rfl⟩, inferInstance⟩
def eQ (rs : List Rn) (i : Nat) (x : Rn) : List Rn := rs.take i ++ x :: rs.drop i
theorem re (rs : List Rn) (i : Nat) (x : Rn) : (eQ rs i x).flatMap bA = (rs.take i).flatMap bA ++ bA x ++ (rs.drop i).flatMap bA := by
 rw [eQ, List.flatMap_append, List.flatMap_cons, List.append_assoc]
theorem oF {rs : List Rn} {i : Nat} (x : Rn) (hi : i ≤ rs.length) : (eQ rs i x).length = rs.length + 1 := by
 rw [eQ, List.length_append, List.length_cons, List.length_take, List.length_drop]; omega
theorem oG (rs : List Rn) (i : Nat) : rs.flatMap bA = (rs.take i).flatMap bA ++ (rs.drop i).flatMap bA := by rw [← List.flatMap_append, List.take_append_drop]
theorem Ad (W0 : World) (R : List HP) (rs : List Rn) (a : Option Addr) (c bv : Nat) (x : Rn) (i : Nat) (hi : i ≤ rs.length) (hl : rs.length ≤ 1000) :
    ax Tryz.prog W0 337 [.slice a rs.length c, .int .i64 (i : Nat), .slice (some ⟨bv, 0, none⟩) 1 1] (osl 498 3 (.slice a rs.length c) (rs.flatMap bA) :: pt bv (am (bA x) 498) :: R)
      (fun v B => ∃ a' c', v = .slice a' (rs.length + 1) c' ∧ B = osl 498 3 (.slice a' (rs.length + 1) c') ((eQ rs i x).flatMap bA) :: R) := by
 have hLt : ((rs.take i).flatMap bA).length = i * 3 := by rw [cV iI, List.length_take, Nat.min_eq_left hi]
 have hLd : ((rs.drop i).flatMap bA).length = (rs.length - i) * 3 := by rw [cV iI, List.length_drop]
 have hLr : (rs.flatMap bA).length = rs.length * 3 := cV iI rs
 refine aB func337 ntmps337 rfl rfl ?_
 refine aa ?_
 refine zi (E := 498) (sz := 3) (a := a) (c := c) (n := rs.length) (fun hcap => ?_)
 refine ae (a7 rfl (ag rfl) (ac (a8 (aa (ae (a7 rfl (ab rfl) (a7 rfl (ab rfl) (a7 rfl (jt dJ dW rfl (i := i) rfl rfl hi rfl) ?_))))))))
 refine ac (a8 (aa (ae (a7 rfl (ab rfl) (a7 rfl (aY dJ rfl) (a7 rfl (ag rfl) (ac (a8 (aa (aa (ae (a7 rfl (ab rfl) (a7 rfl (cu rfl rfl) (ac (a8 ?_)))))))))))))))
 refine au rfl ?_ ?_
 intro c3
 exact absurd c3 (by decide)
 intro c3
 refine aA (a8 (aa (ae (a7 rfl (ab rfl) (a7 rfl (aY dJ rfl) (a7 rfl (ag rfl) (ac (a8 (aa (aa (ae (a7 rfl (ab rfl) (a7 rfl (ab rfl) (a7 rfl (cu rfl rfl) (ac (a8 ?_))))))))))))))))
 refine au rfl ?_ ?_
 intro c6
 refine aa (ae (a7 rfl (ab rfl) (a7 rfl (ab rfl) ?_)))
 refine ah rfl (eg (sz := 3) (by_ := 24) (info := Tryz.t498) dJ (by kernel_rfl) rfl rfl rfl rfl (by decide) rfl rfl dK rfl rfl (by simp only [maxLen]; omega) (by omega)) ?_
 rintro _ _ ⟨a1, c1, rfl, rfl⟩
 refine a7 rfl (ag rfl) (ac (a8 (ao (aJ (ak (.inl rfl) (.cons (aj rfl) .nil) ?_)))))
 obtain rfl : i = rs.length := by omega
 refine ⟨_, ⟨a1, c1, rfl, rfl⟩, ?_⟩
 rw [re, List.take_of_length_le (Nat.le_refl _), List.drop_length, List.flatMap_nil, List.append_nil]
 exact inferInstance
 intro c6
 have hi1 : i < rs.length := by omega
 refine eC (r := osl 498 3) (b := .slice a rs.length c) (gq (fun h1 h2 => by rw [h2] at hLr; simp at hLr; omega) fun g n' cap sp h1 h2 h3 h4 h5 => ?_)
 cases h1
 refine aA (a8 (aa (aa (ae (a7 rfl (ab rfl) (a7 rfl (ab rfl) ?_))))))
 refine a7 rfl (bz rfl rfl (by rw [aT (by omega)]; omega : IntKind.wrap .i64 ((rs.length : Int) + ((1 : Nat) : Int)) = ((rs.length + 1 : Nat) : Int))) ?_
 refine a7 rfl (ab rfl) (a7 rfl (A6 dJ rfl) ?_)
 refine a7 rfl (cA rfl rfl) (ac (a8 ?_))
 refine au rfl ?_ ?_
 intro c8
 refine aa (ae (a7 rfl (ab rfl) (a7 rfl (ab rfl) ?_)))
 refine a7 rfl (l5 dJ dW rfl rfl rfl (by omega)) ?_
 refine a7 rfl (ab rfl) (a7 rfl (ab rfl) ?_)
 refine a7 rfl (bz rfl rfl (by rw [aT (by omega)]; omega : IntKind.wrap .i64 ((rs.length : Int) + ((1 : Nat) : Int)) = ((rs.length + 1 : Nat) : Int))) ?_
 refine a7 rfl (ab rfl) ?_
 refine a7 rfl (d7 rfl rfl (by rw [aT (by omega)]; omega : IntKind.wrap .i64 (((rs.length + 1 : Nat) : Int) - (i : Int)) = ((rs.length + 1 - i : Nat) : Int))) ?_
 refine ah rfl (A4 (sz := 3) (by_ := 24) (info := Tryz.t498) (k := rs.length + 1 - i) (olds := (rs.take i).flatMap bA) dJ dF (by kernel_rfl) rfl rfl rfl rfl (by decide) rfl rfl rfl (.inr ⟨g, 0, rfl, ut (l2 := (rs.drop i).flatMap bA ++ sp) (by rw [← List.append_assoc, ← oG]; exact dK (b := g))⟩) hLt (by omega) (by omega) (by simp only [maxLen]; omega) (by omega)) ?_
 rintro _ _ ⟨a9, k9, zs, rfl, hzs, rfl⟩
 rw [show i + (rs.length + 1 - i) = rs.length + 1 by omega]
 refine eC (r := osl 498 3) (b := .slice a9 (rs.length + 1) k9) (gq (fun q1 q2 => by
  have := congrArg List.length q2
  rw [List.length_append, hLt, hzs] at this; simp at this; omega) fun g9 n9 cap9 sp9 q1 q2 q3 q4 q5 => ?_)
 cases q1
 refine a7 rfl (ag rfl) (ac (a8 (aa (ae (a7 rfl (ab rfl) (a7 rfl (ab rfl) ?_))))))
 refine a7 rfl (jt dJ dW rfl (i := i) (a' := some ⟨g9, i * 3, none⟩) rfl rfl (by omega) (by rw [fh, if_neg (by omega)]; simp [eK])) ?_
 refine a7 rfl (ab rfl) ?_
 refine ah rfl (k8 dJ dW rfl rfl (m := 1) (vs := bA x) (Nat.min_eq_left (by omega)) (dK (b := bv)) rfl (qY x) (by rw [List.length_append, List.length_append, hLt, hzs]; omega) rfl) ?_
 rintro _ B_ ⟨rfl, hB_⟩
 obtain rfl := hB_.symm
 refine ac (a8 (aa ?_))
 refine di [] 9 d4 rfl aH (fun hS => ?_)
 refine ai 0 rfl rfl (by kernel_rfl) (by kernel_rfl) (by kernel_rfl) rfl hS (ab rfl) ?_
 refine ai 1 rfl rfl (by kernel_rfl) (by kernel_rfl) (by kernel_rfl) rfl hS (ab rfl) ?_
 refine ai 2 rfl rfl (by kernel_rfl) (by kernel_rfl) (by kernel_rfl) rfl hS (ab rfl) ?_
 refine ai 3 rfl rfl (by kernel_rfl) (by kernel_rfl) (by kernel_rfl) rfl hS (bz rfl rfl (by rw [aT (by omega)]; omega : IntKind.wrap .i64 ((i : Int) + ((1 : Nat) : Int)) = ((i + 1 : Nat) : Int))) ?_
 refine ai 4 rfl rfl (by kernel_rfl) (by kernel_rfl) (by kernel_rfl) rfl hS (jt dJ dW rfl (i := i + 1) (a' := some ⟨g9, (i + 1) * 3, none⟩) rfl rfl (by omega) (by rw [fh, if_neg (by omega)]; simp [eK])) ?_
 refine ai 5 rfl rfl (by kernel_rfl) (by kernel_rfl) (by kernel_rfl) rfl hS (ab rfl) ?_
 refine ai 6 rfl rfl (by kernel_rfl) (by kernel_rfl) (by kernel_rfl) rfl hS (ab rfl) ?_
 refine ai 7 rfl rfl (by kernel_rfl) (by kernel_rfl) (by kernel_rfl) rfl hS (jt dJ dW rfl (i := i) (a' := some ⟨g, i * 3, none⟩) rfl rfl (by omega) (by rw [fh, if_neg (by omega)]; simp [eK])) ?_
 refine b0 8 (by kernel_rfl) rfl rfl (k8 dJ dW rfl rfl (m := rs.length - i) (vs := (rs.drop i).flatMap bA) (Nat.min_eq_left (by omega)) (uu (b := g) (l1 := (rs.take i).flatMap bA) (l3 := sp) (by rw [← oG]) hLt) hLd (qZ _) (by rw [nK, List.length_append, List.length_append, hLt, hzs]; omega) rfl) rfl ?_; clear hS
 rintro _ B_ ⟨rfl, hB_⟩
 obtain rfl := hB_.symm
 refine ⟨aH, fun hS => ?_⟩
 refine cm (by kernel_rfl) ?_; clear hS
 refine a8 (aa (ae (a7 rfl (ab rfl) (a7 rfl (ag rfl) (ac (a8 (ao (aJ (ak (.inl rfl) (.cons (aj rfl) .nil) ?_)))))))))
 obtain ⟨z1, z2, rfl, hz1⟩ : ∃ z1 z2, zs = z1 ++ z2 ∧ z1.length = 3 := ⟨zs.take 3, zs.drop 3, (List.take_append_drop 3 zs).symm, by rw [List.length_take]; omega⟩
 have hz2 : z2.length = (rs.length - i) * 3 := by rw [List.length_append] at hzs; omega
 have hL : setR (setR ((rs.take i).flatMap bA ++ (z1 ++ z2) ++ sp9) (i * 3) (bA x)) ((i + 1) * 3) ((rs.drop i).flatMap bA) = (eQ rs i x).flatMap bA ++ sp9 := by
  rw [re, ← hLt, show (rs.take i).flatMap bA ++ (z1 ++ z2) ++ sp9 = (rs.take i).flatMap bA ++ z1 ++ (z2 ++ sp9) by simp, oD (by rw [hz1]; rfl)]
  have e : (i + 1) * 3 = ((rs.take i).flatMap bA ++ bA x).length := by rw [List.length_append, hLt, iI, Nat.succ_mul]
  rw [e, ← List.append_assoc, oD (by rw [hz2, hLd])]
 rw [hL]
 have hlen : ((eQ rs i x).flatMap bA).length = (rs.length + 1) * 3 := by rw [cV iI, oF x hi]
 refine ⟨_, ⟨some ⟨g9, 0, none⟩, k9, rfl, rfl⟩, ?_⟩
 exact e7 q2 q3 hlen (by rw [List.length_append, hlen]; rw [List.length_append, List.length_append, hLt, List.length_append, hz1, hz2] at q5; omega)
 intro c8
 refine aA (a8 (aa (ae (a7 rfl (ab rfl) (a7 rfl (ab rfl) (a7 rfl (ab rfl) ?_))))))
 refine a7 rfl (bz rfl rfl (by rw [aT (by omega)]; omega : IntKind.wrap .i64 ((rs.length : Int) + ((1 : Nat) : Int)) = ((rs.length + 1 : Nat) : Int))) ?_
 refine a7 rfl (l5 dJ dW rfl rfl rfl (by omega)) ?_
 refine a7 rfl (ag rfl) (ac (a8 (aa (aa (ae (a7 rfl (ab rfl) (a7 rfl (ab rfl) (a7 rfl (ab rfl) (a7 rfl (ab rfl) ?_)))))))))
 refine a7 rfl (bz rfl rfl (by rw [aT (by omega)]; omega : IntKind.wrap .i64 ((i : Int) + ((1 : Nat) : Int)) = ((i + 1 : Nat) : Int))) ?_
 refine a7 rfl (jt dJ dW rfl (i := i + 1) (a' := some ⟨g, (i + 1) * 3, none⟩) rfl rfl (by omega) (by rw [fh, if_neg (by omega)]; simp [eK])) ?_
 refine a7 rfl (A5 (v := .bool false) rfl (fun w hO => by have h1 := A8 (P := Tryz.prog) (tR := 4) (oa := 0) (na := 1) (ca := 1) (ob := (i + 1) * 3) (nb := rs.length + 1 - (i + 1)) (cb := c - (i + 1)) (ba := bv) (ga := g) (la := bA x) (lb := rs.flatMap bA ++ sp) dJ dW (Nat.zero_le _) (by rw [h5]; omega) hO; rw [run_callFunc_extern func375 (by kernel_rfl) (by kernel_rfl) (by kernel_rfl) (e := Extern.SlicesOverlaps.overlaps #[492, 492] #[4]) (by kernel_rfl), h1]; rfl)) ?_
 refine a7 rfl (bM rfl) (ac (a8 ?_))
 refine au rfl ?_ ?_
 intro c14
 refine aa ?_
 refine di [] 9 d4 rfl aH (fun hS => ?_)
 refine ai 0 rfl rfl (by kernel_rfl) (by kernel_rfl) (by kernel_rfl) rfl hS (ab rfl) ?_
 refine ai 1 rfl rfl (by kernel_rfl) (by kernel_rfl) (by kernel_rfl) rfl hS (ab rfl) ?_
 refine ai 2 rfl rfl (by kernel_rfl) (by kernel_rfl) (by kernel_rfl) rfl hS (ab rfl) ?_
 refine ai 3 rfl rfl (by kernel_rfl) (by kernel_rfl) (by kernel_rfl) rfl hS (bz rfl rfl (by rw [aT (by omega)]; omega : IntKind.wrap .i64 ((i : Int) + ((1 : Nat) : Int)) = ((i + 1 : Nat) : Int))) ?_
 refine ai 4 rfl rfl (by kernel_rfl) (by kernel_rfl) (by kernel_rfl) rfl hS (jt dJ dW rfl (i := i + 1) (a' := some ⟨g, (i + 1) * 3, none⟩) rfl rfl (by omega) (by rw [fh, if_neg (by omega)]; simp [eK])) ?_
 refine ai 5 rfl rfl (by kernel_rfl) (by kernel_rfl) (by kernel_rfl) rfl hS (ab rfl) ?_
 refine ai 6 rfl rfl (by kernel_rfl) (by kernel_rfl) (by kernel_rfl) rfl hS (ab rfl) ?_
 refine ai 7 rfl rfl (by kernel_rfl) (by kernel_rfl) (by kernel_rfl) rfl hS (jt dJ dW rfl (i := i) (a' := some ⟨g, i * 3, none⟩) rfl rfl (by omega) (by rw [fh, if_neg (by omega)]; simp [eK])) ?_
 refine b0 8 (by kernel_rfl) rfl rfl (k8 dJ dW rfl rfl (m := rs.length - i) (vs := (rs.drop i).flatMap bA) ((Nat.min_eq_right (by omega)).trans (by omega)) (uu (b := g) (l1 := (rs.take i).flatMap bA) (l3 := sp) (by rw [← oG]) hLt) hLd (qZ _) (by omega) rfl) rfl ?_; clear hS
 rintro _ B_ ⟨rfl, hB_⟩
 obtain rfl := hB_.symm
 refine ⟨aH, fun hS => ?_⟩
 refine cm (by kernel_rfl) ?_; clear hS
 refine a8 (aa (ae (a7 rfl (ab rfl) (a7 rfl (ab rfl) ?_))))
 refine a7 rfl (jt dJ dW rfl (i := i) (a' := some ⟨g, i * 3, none⟩) rfl rfl (by omega) (by rw [fh, if_neg (by omega)]; simp [eK])) ?_
 refine a7 rfl (ab rfl) ?_
 refine ah rfl (k8 dJ dW rfl rfl (m := 1) (vs := bA x) (Nat.min_eq_left (by omega)) (dK (b := bv)) rfl (qY x) (by rw [nK]; omega) rfl) ?_
 rintro _ B_ ⟨rfl, hB_⟩
 obtain rfl := hB_.symm
 refine ac (a8 (aa (ae (a7 rfl (ab rfl) (a7 rfl (ag rfl) (ac (a8 (ao (aJ (ak (.inl rfl) (.cons (aj rfl) .nil) ?_))))))))))
 have hsp : 3 ≤ sp.length := by rw [List.length_append, hLr] at h5; omega
 obtain ⟨s1, s2, rfl, hs1⟩ : ∃ s1 s2, sp = s1 ++ s2 ∧ s1.length = 3 := ⟨sp.take 3, sp.drop 3, (List.take_append_drop 3 sp).symm, by rw [List.length_take]; omega⟩
 obtain ⟨q1, q2, hq, hq1⟩ : ∃ q1 q2, (rs.drop i).flatMap bA ++ s1 = q1 ++ q2 ∧ q1.length = 3 := ⟨((rs.drop i).flatMap bA ++ s1).take 3, ((rs.drop i).flatMap bA ++ s1).drop 3, (List.take_append_drop 3 _).symm, by rw [List.length_take, List.length_append]; omega⟩
 have hq2 : q2.length = ((rs.drop i).flatMap bA).length := by
  have := congrArg List.length hq
  rw [List.length_append, List.length_append] at this; omega
 have hL : setR (setR (rs.flatMap bA ++ (s1 ++ s2)) ((i + 1) * 3) ((rs.drop i).flatMap bA)) (i * 3) (bA x) = (eQ rs i x).flatMap bA ++ s2 := by
  have h0 : rs.flatMap bA ++ (s1 ++ s2) = (rs.take i).flatMap bA ++ q1 ++ q2 ++ s2 := by
   conv => lhs; rw [oG rs i]
   rw [List.append_assoc, ← List.append_assoc ((rs.drop i).flatMap bA), hq]
   simp only [List.append_assoc]
  have e : (i + 1) * 3 = ((rs.take i).flatMap bA ++ q1).length := by rw [List.length_append, hLt, hq1, Nat.succ_mul]
  have h6 : (rs.take i).flatMap bA ++ q1 ++ (rs.drop i).flatMap bA ++ s2 = (rs.take i).flatMap bA ++ q1 ++ ((rs.drop i).flatMap bA ++ s2) := by simp only [List.append_assoc]
  have h7 := oD (p := (rs.take i).flatMap bA) (q := q1) (s := (rs.drop i).flatMap bA ++ s2) (r := bA x) (by rw [hq1]; rfl)
  rw [hLt] at h7
  rw [h0, e, oD hq2, h6, h7, re]
  simp only [List.append_assoc]
 rw [hL]
 have hlen : ((eQ rs i x).flatMap bA).length = (rs.length + 1) * 3 := by rw [cV iI, oF x hi]
 refine ⟨_, ⟨some ⟨g, 0, none⟩, c, rfl, rfl⟩, ?_⟩
 exact e7 (by omega) h3 hlen (by rw [List.length_append, hlen]; rw [List.length_append, List.length_append, hLr, hs1] at h5; omega)
 intro c14
 first | exact absurd rfl c14 | exact absurd (by decide) c14
def dC (rs : List Rn) (n f k w : Int) : Int := if f < 0 ∨ k < 1 ∨ n < f ∨ n - f < k ∨ w < 0 ∨ 64 ≤ w then 1 else if iJ rs f k then 5 else 0
def dS (rs : List Rn) (n f k w : Int) : List Rn := if dC rs n f k w = 0 then eQ rs (eP rs f) (f, k, w) else rs
theorem uC {rs : List Rn} {n f k w : Int} (h : iK rs) (hn : n ≤ 64) : iK (dS rs n f k w) := by
 unfold dS; split
 rename_i he
 have hb : ¬ (f < 0 ∨ k < 1 ∨ n < f ∨ n - f < k ∨ w < 0 ∨ 64 ≤ w) := fun q => by rw [dC, if_pos q] at he; exact absurd he (by decide)
 intro x hx
 rw [eQ] at hx
 rcases List.mem_append.1 hx with q | q
 exact h x (List.mem_of_mem_take q)
 rcases List.mem_cons.1 q with rfl | q
 exact ⟨by show 0 ≤ f; omega, by show 1 ≤ k; omega, by show f + k ≤ 64; omega, by show 0 ≤ w; omega, by show w < 64; omega⟩
 exact h x (List.mem_of_mem_drop q)
 exact h
theorem uD {rs : List Rn} {n f k w : Int} : (dS rs n f k w).length ≤ rs.length + 1 := by
 unfold dS; split
 rw [oF _ (r9 _ _)]; omega
 omega
theorem uE (W0 : World) (R : List HP) (b : Nat) (rs : List Rn) (n : Int) (hn : 0 ≤ n ∧ n ≤ 64) (hok : iK rs) (hl : rs.length ≤ 900) (f k w : Int) :
    ax Tryz.prog W0 249 [.pointer (some ⟨b, 0, none⟩), .int .i64 f, .int .i64 k, .int .i64 w] (eO b (rs, n) :: R) (fun v B => v = .int .i64 (dC rs n f k w) ∧ B = eO b (dS rs n f k w, n) :: R) := by
 refine aB func249 ntmps249 rfl rfl ?_
 refine aa ?_
 refine uw (b := b) fun a c => ?_
 dsimp only
 refine ae (a7 rfl (ag rfl) (ac (a8 (aa (aP (aa (ae (a7 rfl (ab rfl) (ah rfl (aF call335 rfl (uA b rs.length c a n)) ?_)))))))))
 rintro _ B_ ⟨rfl, hB_⟩
 obtain rfl := hB_.symm
 refine a7 rfl (ag rfl) (ac (a8 ?_))
 refine au rfl ?_ ?_
 intro c1
 exact absurd c1 (by decide)
 intro c1
 refine aa (aa (ae (a7 rfl (ab rfl) (a7 rfl (aV rfl rfl) (a7 rfl (ag rfl) (ac (a8 ?_)))))))
 refine au rfl ?_ ?_
 intro c3
 refine aA (a8 (cI rfl (aa (ae (a7 rfl (ag rfl) (ac (a8 (ao (be (aJ (ak (.inl rfl) (.cons (aj rfl) .nil) ?_)))))))))))
 have he : dC rs n f k w = 1 := by rw [dC, if_pos (by omega)]
 rw [dS, he, if_neg (by decide)]
 exact ⟨_, ⟨rfl, rfl⟩, gy rfl rfl⟩
 intro c3
 refine aa (ae (a7 rfl (ab rfl) (a7 rfl (aV rfl rfl) (a7 rfl (ag rfl) (ac (a8 ?_))))))
 refine au rfl ?_ ?_
 intro c4
 refine aA (a8 (cI rfl (aa (ae (a7 rfl (ag rfl) (ac (a8 (ao (be (aJ (ak (.inl rfl) (.cons (aj rfl) .nil) ?_)))))))))))
 have he : dC rs n f k w = 1 := by rw [dC, if_pos (by omega)]
 rw [dS, he, if_neg (by decide)]
 exact ⟨_, ⟨rfl, rfl⟩, gy rfl rfl⟩
 intro c4
 refine aa (ae (a7 rfl (ab rfl) (a7 rfl (ab rfl) (a7 rfl (aI rfl) ?_))))
 refine a7 rfl (ar rfl jR rfl aC rfl (by first | exact Nat.zero_add _ | rfl)) ?_
 refine a7 rfl (ap aM rfl (az rfl)) ?_
 refine a7 rfl (cA rfl rfl) (a7 rfl (ag rfl) (ac (a8 ?_)))
 refine au rfl ?_ ?_
 intro c5
 refine aA (a8 (cI rfl (aa (ae (a7 rfl (ag rfl) (ac (a8 (ao (be (aJ (ak (.inl rfl) (.cons (aj rfl) .nil) ?_)))))))))))
 have he : dC rs n f k w = 1 := by rw [dC, if_pos (by omega)]
 rw [dS, he, if_neg (by decide)]
 exact ⟨_, ⟨rfl, rfl⟩, gy rfl rfl⟩
 intro c5
 refine aa (ae (a7 rfl (ab rfl) (a7 rfl (ab rfl) (a7 rfl (aI rfl) ?_))))
 refine a7 rfl (ar rfl jR rfl aC rfl (by first | exact Nat.zero_add _ | rfl)) ?_
 refine a7 rfl (ap aM rfl (az rfl)) ?_
 refine a7 rfl (ab rfl) ?_
 refine a7 rfl (d7 rfl rfl (aT (by omega))) ?_
 refine a7 rfl (cA rfl rfl) (a7 rfl (ag rfl) (ac (a8 ?_)))
 refine au rfl ?_ ?_
 intro c6
 refine aA (a8 (cI rfl (aa (ae (a7 rfl (ag rfl) (ac (a8 (ao (be (aJ (ak (.inl rfl) (.cons (aj rfl) .nil) ?_)))))))))))
 have he : dC rs n f k w = 1 := by rw [dC, if_pos (by omega)]
 rw [dS, he, if_neg (by decide)]
 exact ⟨_, ⟨rfl, rfl⟩, gy rfl rfl⟩
 intro c6
 refine aa (ae (a7 rfl (ab rfl) (a7 rfl (aV rfl rfl) (a7 rfl (ag rfl) (ac (a8 ?_))))))
 refine au rfl ?_ ?_
 intro c7
 refine aA (a8 (cI rfl (aa (ae (a7 rfl (ag rfl) (ac (a8 (ao (be (aJ (ak (.inl rfl) (.cons (aj rfl) .nil) ?_)))))))))))
 have he : dC rs n f k w = 1 := by rw [dC, if_pos (by omega)]
 rw [dS, he, if_neg (by decide)]
 exact ⟨_, ⟨rfl, rfl⟩, gy rfl rfl⟩
 intro c7
 refine ae (a7 rfl (ab rfl) (a7 rfl (dr rfl rfl) (a7 rfl (ag rfl) (ac (a8 ?_)))))
 refine au rfl ?_ ?_
 intro c8
 refine aa (ae (a7 rfl (ag rfl) (ac (a8 (ao (be (aJ (ak (.inl rfl) (.cons (aj rfl) .nil) ?_))))))))
 have he : dC rs n f k w = 1 := by rw [dC, if_pos (by omega)]
 rw [dS, he, if_neg (by decide)]
 exact ⟨_, ⟨rfl, rfl⟩, gy rfl rfl⟩
 intro c8
 refine aA (bw (a8 (aa (ae (a7 rfl (ab rfl) (a7 rfl (ab rfl) (a7 rfl (ab rfl) ?_)))))))
 refine ah rfl (fJ call336 rfl (Ab W0 _ b c rs n a hok (by omega) f k (by omega))) ?_
 rintro _ B_ ⟨rfl, hB_⟩
 obtain rfl := hB_.symm
 refine a7 rfl (ab rfl) (a7 rfl (aW rfl rfl) (a7 rfl (aW rfl rfl) (a7 rfl (ag rfl) (a7 rfl (ag rfl) (ac (a8 (aa (aa (ae (a7 rfl (ab rfl) (ac (a8 ?_))))))))))))
 refine au rfl ?_ ?_
 intro c11
 refine aa (ae (a7 rfl (ag rfl) (ac (a8 (ao (aJ (ak (.inl rfl) (.cons (aj rfl) .nil) ?_)))))))
 have he : dC rs n f k w = 5 := by rw [dC, if_neg (by omega), if_pos c11]
 rw [dS, he, if_neg (by decide)]
 exact ⟨_, ⟨rfl, rfl⟩, gy rfl rfl⟩
 intro c11
 refine aA (a8 (aa ?_))
 have he : dC rs n f k w = 0 := by rw [dC, if_neg (by omega), if_neg c11]
 have hal := r9 rs f
 refine kb (E := 498) (sz := 3) (a := a) (n := rs.length) (c := c) bA rs iI (by decide) rfl (fun hs => ?_)
 refine ae (a7 rfl (ab rfl) (a7 rfl (ab rfl) (a7 rfl (aI rfl) ?_)))
 refine a7 rfl (ar rfl jR rfl ni rfl (by first | exact Nat.zero_add _ | rfl)) ?_
 refine a7 rfl (ap xg rfl (az rfl)) ?_
 refine ah rfl (aS call338 rfl (Ac rs a rs.length c rfl (by omega) hs)) ?_
 rintro _ B_ ⟨a2, cc, rfl, hB_⟩
 obtain rfl := hB_.symm
 refine a7 rfl (ab rfl) (a7 rfl (ab rfl) (a7 rfl (ab rfl) (a7 rfl (ab rfl) (a7 rfl (cq nj pK (aK aC (aK aC (aK aC cp))) (bB rfl aC rfl rfl (Nat.le_of_ble_eq_true rfl) SetL.eq (bB rfl aC rfl rfl (Nat.le_of_ble_eq_true rfl) SetL.eq (bB rfl aC rfl rfl (Nat.le_of_ble_eq_true rfl) SetL.eq co)))) ?_))))
 refine ah rfl (fM dJ dW pK rfl (eB rfl rfl fK) rfl (by decide) (by decide) (by decide)) ?_
 rintro _ _ ⟨bv, rfl, rfl⟩
 refine ah rfl (fJ call337 rfl (Ad W0 _ rs a2 cc bv (f, k, w) (eP rs f) hal (by omega))) ?_
 rintro _ B_ ⟨a3, c3', rfl, hB_⟩
 obtain rfl := hB_.symm
 refine a7 rfl (aI rfl) ?_
 refine a7 rfl (ar rfl jR rfl ni rfl (by first | exact Nat.zero_add _ | rfl)) ?_
 refine bc (ck ni rfl rfl rfl (Nat.le_of_ble_eq_true rfl) SetL.eq) ?_
 rintro _ _ rfl
 refine ac (a8 (aa (ae (a7 rfl (ag rfl) (ac (a8 (ao (ak (.inl rfl) (.cons (aj rfl) .nil) ?_))))))))
 rw [dS, he, if_pos rfl]
 exact ⟨_, ⟨rfl, rfl⟩, gy (oF _ hal).symm rfl⟩
def gW : List Rn → Int → Option Int
 | [], _ => none
 | x :: l, i => if x.1 ≤ i ∧ i < x.1 + x.2.1 then some x.2.2 else gW l i
def gz (rs : List Rn) (n i : Int) : Option Int := if i < 0 ∨ n ≤ i then none else gW rs i
theorem uF : ∀ (rs : List Rn) (x : Int) (i : Nat) (hi : i < rs.length), (∀ j (hj : j < rs.length), j < i → ¬ (rs[j].1 ≤ x ∧ x < rs[j].1 + rs[j].2.1)) → (rs[i].1 ≤ x ∧ x < rs[i].1 + rs[i].2.1) → gW rs x = some rs[i].2.2
 | y :: l, x, 0, _, _, h => by rw [gW, if_pos (by simpa using h)]; rfl
 | y :: l, x, i + 1, hi, h1, h2 => by
  have h0 := h1 0 (by simp) (by omega)
  rw [gW, if_neg (by simpa using h0), uF l x i (by simpa using hi) (fun j hj hji => by
   have := h1 (j + 1) (by simpa using hj) (by omega)
   simpa using this) (by simpa using h2)]
  simp
theorem uG : ∀ (rs : List Rn) (x : Int), (∀ j (hj : j < rs.length), ¬ (rs[j].1 ≤ x ∧ x < rs[j].1 + rs[j].2.1)) → gW rs x = none
 | [], _, _ => rfl
 | y :: l, x, h => by
  have h0 := h 0 (by simp)
  rw [gW, if_neg (by simpa using h0), uG l x (fun j hj => by
   have := h (j + 1) (by simpa using hj)
   simpa using this)]
theorem Ae (W0 : World) (R : List HP) (b : Nat) (rs : List Rn) (n : Int) (hok : iK rs) (hl : rs.length ≤ 1000) (i : Int) :
    ax Tryz.prog W0 288 [.pointer (some ⟨b, 0, none⟩), .int .i64 i] (eO b (rs, n) :: R) (fun v B => v = .tuple #[.int .i64 ((gz rs n i).getD 0), .bool (gz rs n i).isSome] ∧ B = eO b (rs, n) :: R) := by
 refine aB func288 ntmps288 rfl rfl ?_
 refine aa (ae (ah rfl (eW rfl rfl) ?_))
 rintro _ _ ⟨bi, rfl, rfl⟩
 refine ah rfl (ia f9 rfl) ?_
 rintro _ _ ⟨b4, rfl, rfl⟩
 refine ah rfl (ia zeroValue4 rfl) ?_
 rintro _ _ ⟨b5, rfl, rfl⟩
 refine ac (a8 (aa (aa ?_)))
 refine uw (b := b) fun a c => ?_
 dsimp only
 refine di [(bi, 0, _), (b, 0, _)] 14 d4 rfl (aE (aE aH)) (fun hS => ?_)
 refine ai 0 rfl rfl (by kernel_rfl) (by kernel_rfl) (by kernel_rfl) rfl hS (ab rfl) ?_
 refine b0 1 (by kernel_rfl) rfl rfl (aF call335 rfl (uA b rs.length c a n)) rfl ?_; clear hS
 rintro _ B_ ⟨rfl, hB_⟩
 obtain rfl := hB_.symm
 refine ⟨(aE (aE aH)), fun hS => ?_⟩
 refine ai 2 rfl rfl (by kernel_rfl) (by kernel_rfl) (by kernel_rfl) rfl hS (ab rfl) ?_
 refine jj (t := 10) rfl ?_ ?_
 intro g1_3
 exact absurd g1_3 (by decide)
 intro g1_3
 refine ai 3 rfl rfl (by kernel_rfl) (by kernel_rfl) (by kernel_rfl) rfl hS (ap aM rfl (by first | exact aU (k := 0) rfl rfl | exact aU (k := 1) rfl rfl)) ?_
 refine ai 4 rfl rfl (by kernel_rfl) (by kernel_rfl) (by kernel_rfl) rfl hS (aV rfl rfl) ?_
 refine ai 5 rfl rfl (by kernel_rfl) (by kernel_rfl) (by kernel_rfl) rfl hS (aX rfl rfl) ?_
 refine ai 6 rfl rfl (by kernel_rfl) (by kernel_rfl) (by kernel_rfl) rfl hS (ab rfl) ?_
 refine jj (t := 14) rfl ?_ ?_
 intro g1_7
 refine dD 7 rfl rfl (by kernel_rfl) (by kernel_rfl) (by kernel_rfl) rfl hS ?_
 refine dD 8 rfl rfl (by kernel_rfl) (by kernel_rfl) (by kernel_rfl) rfl hS ?_
 refine dD 9 rfl rfl (by kernel_rfl) (by kernel_rfl) (by kernel_rfl) rfl hS ?_
 refine dD 10 rfl rfl (by kernel_rfl) (by kernel_rfl) (by kernel_rfl) rfl hS ?_
 refine dD 11 rfl rfl (by kernel_rfl) (by kernel_rfl) (by kernel_rfl) rfl hS ?_
 refine dD 12 rfl rfl (by kernel_rfl) (by kernel_rfl) (by kernel_rfl) rfl hS ?_
 refine ai 13 rfl rfl (by kernel_rfl) (by kernel_rfl) (by kernel_rfl) rfl hS (bI rfl rfl) ?_
 refine cm (by kernel_rfl) ?_; clear hS
 refine a8 (cI rfl (aa (ae (bc (ck aC rfl rfl rfl (Nat.le_of_ble_eq_true rfl) SetL.eq) ?_))))
 rintro _ _ rfl
 refine bc (ck cy rfl rfl rfl (Nat.le_of_ble_eq_true rfl) SetL.eq) ?_
 rintro _ _ rfl
 refine ac (a8 (ao (aJ (ak (.inl rfl) (.cons (ji aM rfl (az rfl)) (.cons (ji gd rfl (az rfl)) .nil)) ?_))))
 have hw : gz rs n i = none := by rw [gz, if_pos (by omega)]
 rw [hw]
 exact ⟨_, ⟨rfl, rfl⟩, gy rfl rfl⟩
 intro g1_7
 refine ai 7 rfl rfl (by kernel_rfl) (by kernel_rfl) (by kernel_rfl) rfl hS (ap aM rfl (by first | exact aU (k := 0) rfl rfl | exact aU (k := 1) rfl rfl)) ?_
 refine ai 8 rfl rfl (by kernel_rfl) (by kernel_rfl) (by kernel_rfl) rfl hS (ab rfl) ?_
 refine ai 9 rfl rfl (by kernel_rfl) (by kernel_rfl) (by kernel_rfl) rfl hS (aI rfl) ?_
 refine ai 10 rfl rfl (by kernel_rfl) (by kernel_rfl) (by kernel_rfl) rfl hS (ar rfl jR rfl aC rfl (by first | exact Nat.zero_add _ | rfl)) ?_
 refine ai 11 rfl rfl (by kernel_rfl) (by kernel_rfl) (by kernel_rfl) rfl hS (ap aM rfl (by first | exact aU (k := 0) rfl rfl | exact aU (k := 1) rfl rfl)) ?_
 refine ai 12 rfl rfl (by kernel_rfl) (by kernel_rfl) (by kernel_rfl) rfl hS (dr rfl rfl) ?_
 refine ai 13 rfl rfl (by kernel_rfl) (by kernel_rfl) (by kernel_rfl) rfl hS (aX rfl rfl) ?_
 refine cm (by kernel_rfl) ?_; clear hS
 refine a8 ?_
 refine au rfl ?_ ?_
 intro c1
 refine aa (ae (bc (ck aC rfl rfl rfl (Nat.le_of_ble_eq_true rfl) SetL.eq) ?_))
 rintro _ _ rfl
 refine bc (ck cy rfl rfl rfl (Nat.le_of_ble_eq_true rfl) SetL.eq) ?_
 rintro _ _ rfl
 refine ac (a8 (ao (aJ (ak (.inl rfl) (.cons (ji aM rfl (az rfl)) (.cons (ji gd rfl (az rfl)) .nil)) ?_))))
 have hw : gz rs n i = none := by rw [gz, if_pos (by omega)]
 rw [hw]
 exact ⟨_, ⟨rfl, rfl⟩, gy rfl rfl⟩
 intro c1
 refine aA (a8 (aa (aa ?_)))
 have hw : gz rs n i = gW rs i := by rw [gz, if_neg (by omega)]
 refine ae (a7 rfl (ab rfl) (ah rfl (aS call358 rfl (ux W0 _ b)) ?_))
 rintro _ B_ ⟨b1, rfl, hB_⟩
 obtain rfl := hB_.symm
 refine ac (a8 (aP ?_))
 refine tB (fun C => (∀ j, j < rs.length → ¬ ((rs.getD j (0, 0, 0)).1 ≤ i ∧ i < (rs.getD j (0, 0, 0)).1 + (rs.getD j (0, 0, 0)).2.1)) ∧ C = pt b (eN a rs.length c n) :: osl 498 3 (.slice a rs.length c) (rs.flatMap bA) :: pt b5 (am [.bool false] 4) :: pt b4 (am [.int .i64 0] 3) :: pt bi (am [.int .i64 i] 3) :: R) (fun C => ∃ k, k < rs.length ∧ (∀ j, j < k → ¬ ((rs.getD j (0, 0, 0)).1 ≤ i ∧ i < (rs.getD j (0, 0, 0)).1 + (rs.getD j (0, 0, 0)).2.1)) ∧ ((rs.getD k (0, 0, 0)).1 ≤ i ∧ i < (rs.getD k (0, 0, 0)).1 + (rs.getD k (0, 0, 0)).2.1) ∧ C = pt b (eN a rs.length c n) :: osl 498 3 (.slice a rs.length c) (rs.flatMap bA) :: pt b5 (am [.bool true] 4) :: pt b4 (am [.int .i64 (rs.getD k (0, 0, 0)).2.2] 3) :: pt bi (am [.int .i64 i] 3) :: R) rfl call388 ?_ ?_ ?_
 intro L D
 refine uy .ret rs hl (fun _ => pt b5 (am [.bool false] 4) :: pt b4 (am [.int .i64 0] 3) :: pt bi (am [.int .i64 i] 3) :: R) (fun k => ∀ j, j < k → ¬ ((rs.getD j (0, 0, 0)).1 ≤ i ∧ i < (rs.getD j (0, 0, 0)).1 + (rs.getD j (0, 0, 0)).2.1)) (fun B => ∃ k, k < rs.length ∧ (∀ j, j < k → ¬ ((rs.getD j (0, 0, 0)).1 ≤ i ∧ i < (rs.getD j (0, 0, 0)).1 + (rs.getD j (0, 0, 0)).2.1)) ∧ ((rs.getD k (0, 0, 0)).1 ≤ i ∧ i < (rs.getD k (0, 0, 0)).1 + (rs.getD k (0, 0, 0)).2.1) ∧ B = pt b5 (am [.bool true] 4) :: pt b4 (am [.int .i64 (rs.getD k (0, 0, 0)).2.2] 3) :: pt bi (am [.int .i64 i] 3) :: R) ((od (r1 := pt) (b1 := b1) (r2 := pt) (b2 := b) (r3 := osl 498 3) (b3 := .slice a rs.length c)).trans (List.Perm.refl _)) (fun j hj => absurd hj (Nat.not_lt_zero j)) (fun h => ⟨h, rfl⟩) (fun B' h => by obtain ⟨k, h1, h2, h3, rfl⟩ := h; exact ⟨k, h1, h2, h3, rfl⟩) ?_
 intro k R' hk hI
 have hx := hok.get hk
 obtain ⟨x, hxe⟩ : ∃ x, rs.getD k (0, 0, 0) = x := ⟨_, rfl⟩
 rw [hxe] at hx ⊢
 simp only [List.cons_append, List.nil_append]
 refine qo rfl rfl ?_
 refine ae (ah rfl (cH pK) ?_)
 rintro _ _ ⟨bd, rfl, rfl⟩
 refine bc (cD dW rfl rfl rfl rfl rfl) ?_
 rintro _ _ rfl
 refine ac (qn rfl ?_)
 refine aP (aa ?_)
 refine uv [(bd, 0, _), (bi, 0, _)] 10 d4 rfl (aE (aE aH)) (fun hS => ?_)
 refine ai 0 rfl rfl (by kernel_rfl) (by kernel_rfl) (by kernel_rfl) rfl hS (ar rfl nj rfl aC rfl (by first | exact Nat.zero_add _ | rfl)) ?_
 refine ai 1 rfl rfl (by kernel_rfl) (by kernel_rfl) (by kernel_rfl) rfl hS (ap aM rfl (by first | exact aU (k := 0) rfl rfl | exact aU (k := 1) rfl rfl)) ?_
 refine ai 2 rfl rfl (by kernel_rfl) (by kernel_rfl) (by kernel_rfl) rfl hS (ap aM rfl (by first | exact aU (k := 0) rfl rfl | exact aU (k := 1) rfl rfl)) ?_
 refine ai 3 rfl rfl (by kernel_rfl) (by kernel_rfl) (by kernel_rfl) rfl hS (iU rfl rfl) ?_
 refine ai 4 rfl rfl (by kernel_rfl) (by kernel_rfl) (by kernel_rfl) rfl hS (ab rfl) ?_
 refine jj (t := 30) rfl ?_ ?_
 intro g5_5
 refine ai 5 rfl rfl (by kernel_rfl) (by kernel_rfl) (by kernel_rfl) rfl hS (ap aM rfl (by first | exact aU (k := 0) rfl rfl | exact aU (k := 1) rfl rfl)) ?_
 refine ai 6 rfl rfl (by kernel_rfl) (by kernel_rfl) (by kernel_rfl) rfl hS (bN sj dW rfl (by first | exact ee (k := 0) rfl | exact ee (k := 1) rfl) rfl) ?_
 refine b0 7 (by kernel_rfl) rfl rfl (aS call359 rfl (uz x (by omega))) rfl ?_; clear hS
 rintro _ B_ ⟨rfl, hB_⟩
 obtain rfl := hB_.symm
 refine ⟨(aE (aE aH)), fun hS => ?_⟩
 refine ai 8 rfl rfl (by kernel_rfl) (by kernel_rfl) (by kernel_rfl) rfl hS (aV rfl rfl) ?_
 refine ai 9 rfl rfl (by kernel_rfl) (by kernel_rfl) (by kernel_rfl) rfl hS (bI rfl rfl) ?_
 refine cm (by kernel_rfl) ?_; clear hS
 refine a8 ?_
 refine au rfl ?_ ?_
 intro c5
 refine aa (ae ?_)
 refine a7 rfl (ar rfl nj rfl aC rfl (by first | exact Nat.zero_add _ | rfl)) ?_
 refine a7 rfl (ap aM rfl (az rfl)) ?_
 refine bc (ck aC rfl rfl rfl (Nat.le_of_ble_eq_true rfl) SetL.eq) ?_
 rintro _ _ rfl
 refine bc (ck cy rfl rfl rfl (Nat.le_of_ble_eq_true rfl) SetL.eq) ?_
 rintro _ _ rfl
 refine ac (a8 (ao (be (ym ?_))))
 refine ⟨_, .inr ⟨rfl, _, ⟨k, hk, hI, by rw [hxe]; omega, rfl⟩, rfl⟩, ?_⟩
 simp only [List.cons_append]
 rw [hxe]
 exact inferInstance
 intro c5
 refine aA (bw (nV ?_))
 have hI' : ∀ j, j < k + 1 → ¬ ((rs.getD j (0, 0, 0)).1 ≤ i ∧ i < (rs.getD j (0, 0, 0)).1 + (rs.getD j (0, 0, 0)).2.1) := fun j hj => by
  rcases Nat.lt_or_ge j k with q | q
  exact hI j q
  obtain rfl : j = k := by omega
  rw [hxe]; omega
 exact ⟨_, .inl ⟨rfl, hI', rfl⟩, inferInstance⟩
 intro g5_5
 refine dD 5 rfl rfl (by kernel_rfl) (by kernel_rfl) (by kernel_rfl) rfl hS ?_
 refine dD 6 rfl rfl (by kernel_rfl) (by kernel_rfl) (by kernel_rfl) rfl hS ?_
 refine dD 7 rfl rfl (by kernel_rfl) (by kernel_rfl) (by kernel_rfl) rfl hS ?_
 refine dD 8 rfl rfl (by kernel_rfl) (by kernel_rfl) (by kernel_rfl) rfl hS ?_
 refine ai 9 rfl rfl (by kernel_rfl) (by kernel_rfl) (by kernel_rfl) rfl hS (aX rfl rfl) ?_
 refine cm (by kernel_rfl) ?_; clear hS
 refine a8 (iA rfl (aA (bw (nV ?_))))
 have hI' : ∀ j, j < k + 1 → ¬ ((rs.getD j (0, 0, 0)).1 ≤ i ∧ i < (rs.getD j (0, 0, 0)).1 + (rs.getD j (0, 0, 0)).2.1) := fun j hj => by
  rcases Nat.lt_or_ge j k with q | q
  exact hI j q
  obtain rfl : j = k := by omega
  rw [hxe]; omega
 exact ⟨_, .inl ⟨rfl, hI', rfl⟩, inferInstance⟩
 intro D C hC
 obtain ⟨hall, rfl⟩ := hC
 have hN : gW rs i = none := uG rs i (fun j hj => by have := hall j hj; rwa [show rs.getD j (0, 0, 0) = rs[j] by simp [List.getD, hj]] at this)
 refine bw (a8 (aa (ae (bc (ck aC rfl rfl rfl (Nat.le_of_ble_eq_true rfl) SetL.eq) ?_))))
 rintro _ _ rfl
 refine bc (ck cy rfl rfl rfl (Nat.le_of_ble_eq_true rfl) SetL.eq) ?_
 rintro _ _ rfl
 refine ac (a8 (ao (m7 (.inl rfl) (.cons (ji aM rfl (az rfl)) (.cons (ji gd rfl (az rfl)) .nil)) ?_)))
 rw [hw, hN]
 exact ⟨_, ⟨rfl, rfl⟩, gy rfl rfl⟩
 intro D C hC
 obtain ⟨k, hk, h1, h2, rfl⟩ := hC
 have hgk : rs.getD k (0, 0, 0) = rs[k] := by simp [List.getD, hk]
 have hN : gW rs i = some (rs.getD k (0, 0, 0)).2.2 := by
  rw [hgk]
  exact uF rs i k hk (fun j hj hjk => by have := h1 j hjk; rwa [show rs.getD j (0, 0, 0) = rs[j] by simp [List.getD, hj]] at this) (by rw [← hgk]; exact h2)
 refine be (aJ (m7 (.inl rfl) (.cons (ji aM rfl (az rfl)) (.cons (ji gd rfl (az rfl)) .nil)) ?_))
 rw [hw, hN]
 exact ⟨_, ⟨rfl, rfl⟩, gy rfl rfl⟩
def mz (rs : List Rn) : Prop := rs.Pairwise fun x y => x.1 + x.2.1 ≤ y.1
theorem Af (x : Rn) (l : List Rn) (f k : Int) : iJ (x :: l) f k = if x.1 + x.2.1 ≤ f then iJ l f k else decide (x.1 < f + k) := by
 unfold iJ; rw [eP]
 by_cases h : x.1 + x.2.1 ≤ f
 simp only [if_pos h, List.getElem?_cons_succ]
 simp only [if_neg h, List.getElem?_cons_zero]
theorem Ag (x y : Rn) (l : List Rn) (f : Int) : eQ (x :: l) (eP (x :: l) f) y = if x.1 + x.2.1 ≤ f then x :: eQ l (eP l f) y else y :: x :: l := by
 unfold eQ; rw [eP]
 by_cases h : x.1 + x.2.1 ≤ f
 simp only [if_pos h, List.take_succ_cons, List.drop_succ_cons, List.cons_append]
 simp only [if_neg h, List.take_zero, List.drop_zero, List.nil_append]
theorem Ah {x y : Rn} {l : List Rn} {i : Nat} (h : x ∈ eQ l i y) : x = y ∨ x ∈ l := by
 unfold eQ at h
 rcases List.mem_append.1 h with q | q
 exact .inr (List.mem_of_mem_take q)
 rcases List.mem_cons.1 q with q | q
 exact .inl q
 exact .inr (List.mem_of_mem_drop q)
theorem uH : ∀ {rs : List Rn} {f k w : Int}, mz rs → (∀ x ∈ rs, 1 ≤ x.2.1) → iJ rs f k = false → mz (eQ rs (eP rs f) (f, k, w))
 | [], f, k, w, _, _, _ => List.pairwise_singleton _ _
 | x :: l, f, k, w, hs, hp, hm => by
  obtain ⟨h1, h2⟩ := List.pairwise_cons.1 hs
  have hx := hp x (by simp)
  rw [Af] at hm
  rw [Ag]
  by_cases q : x.1 + x.2.1 ≤ f
  rw [if_pos q] at hm ⊢
  refine List.pairwise_cons.2 ⟨fun y hy => ?_, uH h2 (fun y hy => hp y (by simp [hy])) hm⟩
  rcases Ah hy with rfl | hy
  exact q
  exact h1 y hy
  rw [if_neg q] at hm ⊢
  have hm := of_decide_eq_false hm
  refine List.pairwise_cons.2 ⟨fun y hy => ?_, hs⟩
  rcases List.mem_cons.1 hy with rfl | hy
  show f + k ≤ _; omega
  have := h1 y hy
  show f + k ≤ _; omega
theorem Ai {rs : List Rn} {n f k w : Int} (h : mz rs) (hp : ∀ x ∈ rs, 1 ≤ x.2.1) : mz (dS rs n f k w) := by
 unfold dS; split
 rename_i he
 unfold dC at he
 split at he
 exact absurd he (by decide)
 split at he
 exact absurd he (by decide)
 rename_i q; exact uH h hp (by simpa using q)
 exact h
section
variable {P : Program} {W0 : World} {N : FSz} {e : bq} {A R : List HP} {t : TypeId} {v : Value} {x y : Operand} {l' ys : List Value}
theorem fZ {S : World → Prop} {E n c j sz o' b off : Nat} {k : IntKind} {i : Int} {a' : Option Addr} (hu : P.underlying t = some (.slice E)) (hs : ∀ w, (sizeOf E).run P w = .ok sz w) (hx : ev e x = some (.slice a' n c)) (ha : a' = some ⟨b, off, none⟩) (hy : ev e y = some (.int k i))
    (hi : i = (j : Int)) (hj : j < n) (ho : off + j * sz = o') : bO P S N e (.indexAddr t x y) (.pointer (some ⟨b, o', none⟩)) := by
 subst ha; exact bK hu hs hx hy hi hj ho
instance (priority := high) ent_nil {A : List HP} : Ent A [] := ⟨fun l _ => ⟨[], l, rfl, List.Perm.refl _⟩⟩
end
abbrev eh (c : Cfg) : Obj := am (cF c) 29
def eo (c : Cfg) (i : Nat) : Rn := c.rl.getD i (0, 0, 0)
def eE (c : Cfg) : Nat → List Rn
 | 0 => []
 | i + 1 => if dM (eo c i).1 c.cats = true then dS (eE c i) 32 (eo c i).2.1 (eo c i).2.2 i else eE c i
theorem uI (c : Cfg) : ∀ i, iK (eE c i) ∧ (eE c i).length ≤ i ∧ mz (eE c i)
 | 0 => ⟨fun x hx => by simp [eE] at hx, Nat.le_refl _, List.Pairwise.nil⟩
 | i + 1 => by
  obtain ⟨h1, h2, h3⟩ := uI c i
  rw [eE]; split
  exact ⟨uC h1 (by decide), Nat.le_trans uD (by omega), Ai h3 fun x hx => (h1 x hx).2.1⟩
  exact ⟨h1, by omega, h3⟩
def kh (c : Cfg) (i : Nat) : Bool := !(dM (eo c i).1 c.cats && decide (dC (eE c i) 32 (eo c i).2.1 (eo c i).2.2 i = 0))
theorem Aj (W0 : World) (b1 b4 bt : Nat) (c : Cfg) (hl : c.rl.length ≤ 8) (hs : ∀ A, bU (bj W0 A) c.ra 3 en c.rl) :
    WF W0 248 [.pointer (some ⟨b1, 0, none⟩), .pointer (some ⟨b4, 0, none⟩)] c.rl.length (fun i => bC [pt b1 (eh c), pt b4 (am [.pointer (some ⟨bt, 0, none⟩)] 410), eO bt (eE c i, 32)]) (kh c) := ⟨call248, fun i hi R => by
 refine jq ?_
 simp only [List.cons_append, List.nil_append]
 obtain ⟨g, o, hra, hc⟩ := (hs (pt b1 (eh c) :: R)).at_ hi
 obtain ⟨x, hx⟩ : ∃ x, c.rl[i] = x := ⟨_, rfl⟩
 have hA : eo c i = x := by simp [eo, List.getD, hi, hx]
 rw [hx] at hc
 obtain ⟨h1, h2, h3⟩ := uI c i
 have hT : eE c (i + 1) = if dM x.1 c.cats = true then dS (eE c i) 32 x.2.1 x.2.2 i else eE c i := by rw [eE, hA]
 have hW : kh c i = !(dM x.1 c.cats && decide (dC (eE c i) 32 x.2.1 x.2.2 i = 0)) := by rw [kh, hA]
 rw [hT, hW]
 generalize eE c i = T at h1 h2 h3 ⊢
 refine aB func248 ntmps248 rfl rfl ?_
 refine aa (ae (a7 rfl (ag rfl) (ac (a8 (aa (ae ?_))))))
 refine a7 rfl (ar rfl bW rfl lV rfl (by first | exact Nat.zero_add _ | rfl)) ?_
 refine a7 rfl (ap nk rfl (az rfl)) ?_
 refine a7 rfl (ab rfl) ?_
 refine a7 rfl (fZ kG jS rfl hra rfl rfl hi (by first | exact Nat.zero_add _ | rfl)) ?_
 refine a7 rfl (bN xh jS rfl hc.weak rfl) ?_
 refine ah rfl (cH xi) ?_
 rintro _ _ ⟨bx, rfl, rfl⟩
 refine bc (cD jS rfl rfl rfl rfl rfl) ?_
 rintro _ _ rfl
 refine ac (a8 (aa (ae ?_)))
 refine a7 rfl (ar rfl ja rfl aC rfl (by first | exact Nat.zero_add _ | rfl)) ?_
 refine a7 rfl (ap aM rfl (az rfl)) ?_
 refine a7 rfl (ar rfl bW rfl aC rfl (by first | exact Nat.zero_add _ | rfl)) ?_
 refine a7 rfl (ap aM rfl (az rfl)) ?_
 refine ah rfl (aS xd rfl (qW x.1 c.cats)) ?_
 rintro _ B_ ⟨rfl, hB_⟩
 obtain rfl := hB_.symm
 refine a7 rfl (bM rfl) (a7 rfl (ab rfl) ?_)
 refine bJ rfl rfl rfl ?_ ?_
 intro g2_7
 have hv : dM x.1 c.cats = false := by first | exact g2_7 | simpa using g2_7
 rw [hv]
 refine aD rfl rfl rfl rfl (aD rfl rfl rfl rfl (aD rfl rfl rfl rfl (aD rfl rfl rfl rfl (aD rfl rfl rfl rfl (aD rfl rfl rfl rfl (aD rfl rfl rfl rfl (a7 rfl (bI rfl rfl) (a7 rfl (ag rfl) (ac (a8 (ao (ak (.inl rfl) (.cons (aj rfl) .nil) ?_))))))))))))
 refine ⟨_, ⟨?_, rfl⟩, ?_⟩
 refine congrArg Value.bool ?_
 first
   | rfl
   | (rw [Bool.true_and, bne, Bool.eq_iff_iff]; simp)
 first
   | (rw [if_pos rfl]; exact inferInstance)
   | (rw [if_neg (by decide)]; exact inferInstance)
 intro g2_7
 have hv : dM x.1 c.cats = true := by first | exact g2_7 | simpa using g2_7
 rw [hv]
 refine a7 rfl (ap xf rfl (az rfl)) ?_
 refine av rfl rfl ?_
 refine a7 rfl (ar rfl ja rfl aC rfl (by first | exact Nat.zero_add _ | rfl)) ?_
 refine av rfl rfl (a7 rfl (ap aM rfl (az rfl)) ?_)
 refine av rfl rfl ?_
 refine a7 rfl (ar rfl ja rfl aC rfl (by first | exact Nat.zero_add _ | rfl)) ?_
 refine av rfl rfl (a7 rfl (ap aM rfl (az rfl)) ?_)
 refine av rfl rfl (a7 rfl (ab rfl) (av rfl rfl ?_))
 refine ah rfl (aF call249 rfl (uE W0 _ bt T 32 (by decide) h1 (by omega) x.2.1 x.2.2 i)) ?_
 rintro _ B_ ⟨rfl, hB_⟩
 obtain rfl := hB_.symm
 refine av rfl rfl (a7 rfl (bT rfl rfl) (a7 rfl (aX rfl rfl) (a7 rfl (ag rfl) (ac (a8 (ao (ak (.inl rfl) (.cons (aj rfl) .nil) ?_)))))))
 refine ⟨_, ⟨?_, rfl⟩, ?_⟩
 refine congrArg Value.bool ?_
 first
   | rfl
   | (rw [Bool.true_and, bne, Bool.eq_iff_iff]; simp)
 first
   | (rw [if_pos rfl]; exact inferInstance)
   | (rw [if_neg (by decide)]; exact inferInstance)
 ⟩
def im (c : Cfg) : Bool := decide (8 < c.rl.length) || fX (kh c) c.rl.length
theorem Ak (W0 : World) (R : List HP) (c : Cfg) (hs : ∀ A, bU (bj W0 A) c.ra 3 en c.rl) :
    ax Tryz.prog W0 114 [.agg (cF c).toArray] R (fun v B => ∃ r, v = .tuple #[.int .i64 r, .bool (im c)] ∧ B = R) := by
 refine aB func114 ntmps114 rfl rfl ?_
 refine aa (ae (ah rfl (bL rfl) ?_))
 rintro _ _ ⟨b1, rfl, rfl⟩
 refine a7 rfl (ag rfl) (a7 rfl (ag rfl) (ac (a8 (aa (aa (ae ?_))))))
 refine a7 rfl (ar rfl bW rfl lV rfl (by first | exact Nat.zero_add _ | rfl)) ?_
 refine a7 rfl (ap nk rfl (az rfl)) ?_
 refine a7 rfl (aY kG rfl) (a7 rfl (cA rfl rfl) (ac (a8 ?_)))
 refine au rfl ?_ ?_
 intro c1
 refine aa (ae (a7 rfl (ag rfl) (a7 rfl (ag rfl) (ac (a8 (ao (aJ (ak (.inl rfl) (.cons (aj rfl) (.cons (aj rfl) .nil)) ?_))))))))
 rw [im, decide_eq_true (by omega), Bool.true_or]
 exact ⟨_, ⟨0, rfl, rfl⟩, inferInstance⟩
 intro c1
 refine aA (a8 (aa (ae ?_)))
 refine ah rfl (aS call247 rfl (uB 32 (by decide))) ?_
 rintro _ B_ ⟨bt, rfl, hB_⟩
 obtain rfl := hB_.symm
 refine a7 rfl (ab rfl) (a7 rfl (aW rfl rfl) (a7 rfl (aW rfl rfl) (ah rfl (ia zeroValue410 rfl) ?_)))
 rintro _ _ ⟨b4, rfl, rfl⟩
 refine bc (ck sk rfl rfl rfl (Nat.le_of_ble_eq_true rfl) SetL.eq) ?_
 rintro _ _ rfl
 refine a7 rfl (ag rfl) (ac (a8 (aa (gm (B := kH 0 (bC [pt b1 (eh c), pt b4 (am [.pointer (some ⟨bt, 0, none⟩)] 410), eO bt ([], 32)]) :: R) inferInstance ?_))))
 refine z7 ?_
 simp only [List.cons_append, List.nil_append]
 refine ae ?_
 refine a7 rfl (ar rfl bW rfl lV rfl (by first | exact Nat.zero_add _ | rfl)) ?_
 refine a7 rfl (ap nk rfl (az rfl)) ?_
 refine a7 rfl (aY kG rfl) (a7 rfl (dz rfl rfl) ?_)
 refine ah rfl (fc (B := kH 0 (bC [pt b1 (eh c), pt b4 (am [.pointer (some ⟨bt, 0, none⟩)] 410), eO bt ([], 32)]) :: R) inferInstance (aS nh rfl (uo W0 R 248 [.pointer (some ⟨b1, 0, none⟩), .pointer (some ⟨b4, 0, none⟩)] c.rl.length (fun i => bC [pt b1 (eh c), pt b4 (am [.pointer (some ⟨bt, 0, none⟩)] 410), eO bt (eE c i, 32)]) (kh c) (Aj W0 b1 b4 bt c (by omega) hs) (by omega)))) ?_
 rintro _ B_ ⟨r, rfl, hB_⟩
 obtain rfl := hB_.symm
 refine a7 rfl (aW rfl rfl) (a7 rfl (aW rfl rfl) (a7 rfl (ag rfl) (a7 rfl (ag rfl) (ac (a8 (ao (ak (.inl rfl) (.cons (aj rfl) (.cons (aj rfl) .nil)) ?_)))))))
 rw [im, decide_eq_false (by omega), Bool.false_or]
 exact ⟨_, ⟨r, rfl, rfl⟩, inferInstance⟩
def ki (c : Cfg) (g : Int) (k : Nat) : Bool := (c.pl.take k).any fun q => decide (q.2 = g)
theorem Al (W0 : World) (R : List HP) (c : Cfg) (g : Int) (k : Nat) (hk : k < c.pl.length) (hl : c.pl.length ≤ 8) (hcap : c.pl.length ≤ c.pc) (hs : ∀ A, bU (bj W0 A) c.pa 2 d5 c.pl) :
    ax Tryz.prog W0 252 [.agg (cF c).toArray, .int .i64 g, .int .i64 k] R (fun v B => v = .bool (ki c g k) ∧ B = R) := by
 refine aB func252 ntmps252 rfl rfl ?_
 refine aa (ae (ah rfl (bL rfl) ?_))
 rintro _ _ ⟨b1, rfl, rfl⟩
 refine a7 rfl (ag rfl) (ac (a8 (aa (aa (ae ?_)))))
 refine a7 rfl (ar rfl bW rfl np rfl (by first | exact Nat.zero_add _ | rfl)) ?_
 refine a7 rfl (ap pL rfl (az rfl)) ?_
 refine a7 rfl (ab rfl) ?_
 refine a7 rfl (l5 jL i5 rfl rfl (h := k) rfl (by omega)) ?_
 refine a7 rfl (aY jL rfl) (a7 rfl (ab rfl) (ac (a8 (aP ?_))))
 refine bX (fun i : Nat => i ≤ k ∧ ∀ j, j < i → (c.pl.getD j (0, 0)).2 ≠ g) (fun i => [(1, .int .i64 g), (12, .slice c.pa k c.pc), (13, .int .i64 k), (14, .int .i64 i)]) (fun _ => R) (fun i => k - i) 0 ?_ ?_ ?_ ?_
 exact ⟨Nat.zero_le _, fun j hj => absurd hj (Nat.not_lt_zero _)⟩
 · repeat (first | exact aQ | refine aO rfl ?_)
 exact inferInstance
 intro i ⟨hi, hI⟩
 refine aa (ae (a7 rfl (aV rfl rfl) (ac (a8 (aa ?_)))))
 refine au rfl ?_ ?_
 intro c2
 refine aA (a8 (aa (aP (aa ?_))))
 have hi1 : i < c.pl.length := by omega
 have hik : i < k := by omega
 obtain ⟨gp, o, hpa, hc⟩ := (hs R).at_ hi1
 obtain ⟨x, hx⟩ : ∃ x, c.pl[i] = x := ⟨_, rfl⟩
 have hgd : c.pl.getD i (0, 0) = x := by simp [List.getD, hi1, hx]
 rw [hx] at hc
 refine ae ?_
 refine a7 rfl (fZ jL i5 rfl hpa rfl rfl hik (by first | exact Nat.zero_add _ | rfl)) ?_
 refine a7 rfl (bN sd i5 rfl hc.weak rfl) ?_
 refine ah rfl (cH wY) ?_
 rintro _ _ ⟨bx, rfl, rfl⟩
 refine bc (cD i5 rfl rfl rfl rfl rfl) ?_
 rintro _ _ rfl
 refine ac (a8 (aa (ae ?_)))
 refine a7 rfl (ar rfl kD rfl aC rfl (by first | exact Nat.zero_add _ | rfl)) ?_
 refine a7 rfl (ap aM rfl (az rfl)) ?_
 refine a7 rfl (ab rfl) (a7 rfl (cu rfl rfl) (ac (a8 ?_)))
 refine au rfl ?_ ?_
 intro c4
 refine aa (ae (a7 rfl (ag rfl) (ac (a8 (ao (be (aJ (aJ (be (aJ (ak (.inl rfl) (.cons (aj rfl) .nil) ?_)))))))))))
 have ht : ki c g k = true := by
  rw [ki, List.any_eq_true]
  exact ⟨x, by rw [← hx]; exact List.mem_take_iff_getElem.2 ⟨i, by omega, rfl⟩, decide_eq_true c4⟩
 rw [ht]
 exact ⟨_, ⟨rfl, rfl⟩, inferInstance⟩
 intro c4
 refine aA (bw (a8 (ae ?_)))
 refine a7 rfl (bz rfl rfl (by first | exact aT (by omega) | rfl)) ?_
 refine a7 rfl (ab rfl) (ac (a8 ?_))
 refine cg (i + 1) ?_ ?_ ?_ ?_
 refine ⟨by omega, fun j hj => ?_⟩
 rcases Nat.lt_or_ge j i with q | q
 exact hI j q
 rw [show j = i by omega, hgd]; exact c4
 omega
 · repeat (first | exact aQ | refine aO rfl ?_)
 exact inferInstance
 intro c2
 refine bF (aR (aR (bH (a8 (aa (ae (a7 rfl (ag rfl) (ac (a8 (ao (ak (.inl rfl) (.cons (aj rfl) .nil) ?_)))))))))))
 have ht : ki c g k = false := by
  rw [ki, List.any_eq_false]
  intro x hx
  obtain ⟨j, hj, rfl⟩ := List.mem_take_iff_getElem.1 hx
  have := hI j (by omega)
  rw [show c.pl.getD j (0, 0) = c.pl[j]'(by omega) by simp [List.getD, show j < c.pl.length by omega]] at this
  simpa using this
 rw [ht]
 exact ⟨_, ⟨rfl, rfl⟩, inferInstance⟩
def lr (c : Cfg) (i : Nat) : Bool := !dM (c.pl.getD i (0, 0)).1 c.cats || (decide ((c.pl.getD i (0, 0)).2 ≠ -1) && (!eM c (c.pl.getD i (0, 0)).2 || decide ((c.pl.getD i (0, 0)).1 ≠ gV c (c.pl.getD i (0, 0)).2) || ki c (c.pl.getD i (0, 0)).2 i))
theorem Am (W0 : World) (b1 : Nat) (c : Cfg) (hl : c.pl.length ≤ 8) (hcap : c.pl.length ≤ c.pc) (hs : ∀ A, bU (bj W0 A) c.pa 2 d5 c.pl) (hgs : ∀ A, bU (bj W0 A) c.ga 3 en c.gl) :
    WF W0 250 [.pointer (some ⟨b1, 0, none⟩)] c.pl.length (fun _ => bC [pt b1 (eh c)]) (lr c) := ⟨call250, fun i hi R => by
 refine jq ?_
 simp only [List.cons_append, List.nil_append]
 obtain ⟨g, o, hpa, hc⟩ := (hs (pt b1 (eh c) :: R)).at_ hi
 obtain ⟨⟨p, q⟩, hx⟩ : ∃ x, c.pl[i] = x := ⟨_, rfl⟩
 have hgd : c.pl.getD i (0, 0) = (p, q) := by simp [List.getD, hi, hx]
 have hW : lr c i = (!dM p c.cats || (decide (q ≠ -1) && (!eM c q || decide (p ≠ gV c q) || ki c q i))) := by rw [lr, hgd]
 rw [hx] at hc
 rw [hW]
 have hrow : ∃ (gg og j : Nat) (vs : List Value), (∀ A, cB (bj W0 A) gg (og + j * 3) vs) ∧ (eM c q = true → c.ga = some ⟨gg, og, none⟩ ∧ q = (j : Int) ∧ j < c.gl.length ∧ ∃ u : Int × Int × Int, vs = en u ∧ gV c q = u.1) := by
  cases hG : eM c q with
  | false => exact ⟨0, 0, 0, [], fun A k v hk => by simp at hk, fun h => by cases h⟩
  | true =>
   have hb : 0 ≤ q ∧ q < c.gl.length := of_decide_eq_true hG
   obtain ⟨j, rfl⟩ : ∃ j : Nat, q = (j : Int) := ⟨q.toNat, by omega⟩
   have hj : j < c.gl.length := by omega
   obtain ⟨gg, og, hga, _⟩ := (hgs []).at_ hj
   refine ⟨gg, og, j, en c.gl[j], fun A => ?_, fun _ => ⟨hga, rfl, hj, c.gl[j], rfl, ?_⟩⟩
   obtain ⟨g2, o2, h2, hc2⟩ := (hgs A).at_ hj
   rw [hga] at h2; cases h2; exact hc2
   rw [gV, Int.toNat_natCast]; simp [List.getD, hj]
 obtain ⟨gg, og, j, vs, hcv, hrw⟩ := hrow
 obtain ⟨w, hw⟩ : ∃ w, eM c q = w := ⟨_, rfl⟩
 rw [hw] at hrw ⊢
 refine aB func250 ntmps250 rfl rfl ?_
 refine aa (ae (a7 rfl (ag rfl) (ac (a8 (aa (ae ?_))))))
 refine a7 rfl (ar rfl bW rfl np rfl (by first | exact Nat.zero_add _ | rfl)) ?_
 refine a7 rfl (ap pL rfl (az rfl)) ?_
 refine a7 rfl (ab rfl) ?_
 refine a7 rfl (fZ jL i5 rfl hpa rfl rfl hi (by first | exact Nat.zero_add _ | rfl)) ?_
 refine a7 rfl (bN sd i5 rfl hc.weak rfl) ?_
 refine ah rfl (cH wY) ?_
 rintro _ _ ⟨bx, rfl, rfl⟩
 refine bc (cD i5 rfl rfl rfl rfl rfl) ?_
 rintro _ _ rfl
 refine ac (a8 (aa (aP (aa (ae ?_)))))
 refine a7 rfl (ar rfl kD rfl aC rfl (by first | exact Nat.zero_add _ | rfl)) ?_
 refine a7 rfl (ap aM rfl (az rfl)) ?_
 refine a7 rfl (ar rfl bW rfl aC rfl (by first | exact Nat.zero_add _ | rfl)) ?_
 refine a7 rfl (ap aM rfl (az rfl)) ?_
 refine ah rfl (aS xd rfl (qW p c.cats)) ?_
 rintro _ B_ ⟨rfl, hB_⟩
 obtain rfl := hB_.symm
 refine a7 rfl (bM rfl) (a7 rfl (ag rfl) (ac (a8 ?_)))
 refine au rfl ?_ ?_
 intro c2
 refine aa (ae (a7 rfl (ag rfl) (ac (a8 (ao (be (aJ (ak (.inl rfl) (.cons (aj rfl) .nil) ?_))))))))
 have hv : dM p c.cats = false := by first | exact c2 | simpa using c2
 rw [hv]
 exact ⟨_, ⟨rfl, rfl⟩, inferInstance⟩
 intro c2
 have hv : dM p c.cats = true := by first | exact c2 | simpa using c2
 rw [hv]
 refine aa (ae ?_)
 refine a7 rfl (ar rfl kD rfl aC rfl (by first | exact Nat.zero_add _ | rfl)) ?_
 refine a7 rfl (ap aM rfl (az rfl)) ?_
 refine a7 rfl (cu rfl rfl) (a7 rfl (ag rfl) (ac (a8 ?_)))
 refine au rfl ?_ ?_
 intro c4
 refine aa (ae (a7 rfl (ag rfl) (ac (a8 (ao (be (aJ (ak (.inl rfl) (.cons (aj rfl) .nil) ?_))))))))
 rw [decide_eq_false (by omega)]
 exact ⟨_, ⟨rfl, rfl⟩, inferInstance⟩
 intro c4
 refine aa (ae (a7 rfl (cC cR ce rfl rfl) ?_))
 refine a7 rfl (ar rfl kD rfl aC rfl (by first | exact Nat.zero_add _ | rfl)) ?_
 refine a7 rfl (ap aM rfl (az rfl)) ?_
 refine ah rfl (aS lU rfl (kg c q)) ?_
 rintro _ B_ ⟨rfl, hB_⟩
 obtain rfl := hB_.symm
 rw [hw]
 refine a7 rfl (bM rfl) (a7 rfl (ag rfl) (ac (a8 ?_)))
 refine au rfl ?_ ?_
 intro c6
 refine aa (ae (a7 rfl (ag rfl) (ac (a8 (ao (be (aJ (ak (.inl rfl) (.cons (aj rfl) .nil) ?_))))))))
 have hw0 : w = false := by first | exact c6 | simpa using c6
 rw [hw0, decide_eq_true (by omega)]
 exact ⟨_, ⟨rfl, rfl⟩, inferInstance⟩
 intro c6
 obtain rfl : w = true := by first | exact c6 | simpa using c6
 obtain ⟨hga, hqj, hj, u, rfl, hlu⟩ := hrw rfl
 rw [hlu, decide_eq_true (by omega : q ≠ -1)]
 have hne : ¬ q = -1 := by omega
 refine aA (bw (a8 (aa ?_)))
 refine di [(b1, 0, cF c), (bx, 0, d5 (p, q)), (gg, og + j * 3, en u)] 18 d4 rfl (aE (aE (iV (hcv _) aH))) (fun hS => ?_)
 refine ai 0 rfl rfl (by kernel_rfl) (by kernel_rfl) (by kernel_rfl) rfl hS (ar rfl kD rfl aC rfl (by first | exact Nat.zero_add _ | rfl)) ?_
 refine ai 1 rfl rfl (by kernel_rfl) (by kernel_rfl) (by kernel_rfl) rfl hS (ap aM rfl (by first | exact aU (k := 0) rfl rfl | exact aU (k := 1) rfl rfl | exact aU (k := 2) rfl rfl | exact aU (k := 3) rfl rfl)) ?_
 refine ai 2 rfl rfl (by kernel_rfl) (by kernel_rfl) (by kernel_rfl) rfl hS (ar rfl bW rfl eV rfl (by first | exact Nat.zero_add _ | rfl)) ?_
 refine ai 3 rfl rfl (by kernel_rfl) (by kernel_rfl) (by kernel_rfl) rfl hS (ap fq rfl (by first | exact aU (k := 0) rfl rfl | exact aU (k := 1) rfl rfl | exact aU (k := 2) rfl rfl | exact aU (k := 3) rfl rfl)) ?_
 refine ai 4 rfl rfl (by kernel_rfl) (by kernel_rfl) (by kernel_rfl) rfl hS (ar rfl kD rfl aC rfl (by first | exact Nat.zero_add _ | rfl)) ?_
 refine ai 5 rfl rfl (by kernel_rfl) (by kernel_rfl) (by kernel_rfl) rfl hS (ap aM rfl (by first | exact aU (k := 0) rfl rfl | exact aU (k := 1) rfl rfl | exact aU (k := 2) rfl rfl | exact aU (k := 3) rfl rfl)) ?_
 refine ai 6 rfl rfl (by kernel_rfl) (by kernel_rfl) (by kernel_rfl) rfl hS (fZ eA gi rfl hga rfl hqj hj (by first | exact Nat.zero_add _ | rfl)) ?_
 refine ai 7 rfl rfl (by kernel_rfl) (by kernel_rfl) (by kernel_rfl) rfl hS (ar rfl gj rfl aC rfl (by first | exact Nat.zero_add _ | rfl)) ?_
 refine ai 8 rfl rfl (by kernel_rfl) (by kernel_rfl) (by kernel_rfl) rfl hS (ap aM rfl (kX (k := 2) (j := 0) rfl rfl)) ?_
 refine ai 9 rfl rfl (by kernel_rfl) (by kernel_rfl) (by kernel_rfl) rfl hS (bT rfl rfl) ?_
 refine ai 10 rfl rfl (by kernel_rfl) (by kernel_rfl) (by kernel_rfl) rfl hS (ab rfl) ?_
 refine jj (t := 37) rfl ?_ ?_
 intro g8_11
 refine dD 11 rfl rfl (by kernel_rfl) (by kernel_rfl) (by kernel_rfl) rfl hS ?_
 refine dD 12 rfl rfl (by kernel_rfl) (by kernel_rfl) (by kernel_rfl) rfl hS ?_
 refine dD 13 rfl rfl (by kernel_rfl) (by kernel_rfl) (by kernel_rfl) rfl hS ?_
 refine dD 14 rfl rfl (by kernel_rfl) (by kernel_rfl) (by kernel_rfl) rfl hS ?_
 refine dD 15 rfl rfl (by kernel_rfl) (by kernel_rfl) (by kernel_rfl) rfl hS ?_
 refine ai 16 rfl rfl (by kernel_rfl) (by kernel_rfl) (by kernel_rfl) rfl hS (bI rfl rfl) ?_
 refine ai 17 rfl rfl (by kernel_rfl) (by kernel_rfl) (by kernel_rfl) rfl hS (ag rfl) ?_
 refine cm (by kernel_rfl) ?_; clear hS
 refine a8 (ao (ak (.inl rfl) (.cons (aj rfl) .nil) ?_))
 refine ⟨_, ⟨?_, rfl⟩, inferInstance⟩
 refine congrArg Value.bool ?_
 rw [Bool.eq_iff_iff]
 simp_all
 intro g8_11
 refine ai 11 rfl rfl (by kernel_rfl) (by kernel_rfl) (by kernel_rfl) rfl hS (bN cR ce rfl (by first | exact ee (k := 0) rfl | exact ee (k := 1) rfl | exact ee (k := 2) rfl | exact ee (k := 3) rfl) rfl) ?_
 refine ai 12 rfl rfl (by kernel_rfl) (by kernel_rfl) (by kernel_rfl) rfl hS (ar rfl kD rfl aC rfl (by first | exact Nat.zero_add _ | rfl)) ?_
 refine ai 13 rfl rfl (by kernel_rfl) (by kernel_rfl) (by kernel_rfl) rfl hS (ap aM rfl (by first | exact aU (k := 0) rfl rfl | exact aU (k := 1) rfl rfl | exact aU (k := 2) rfl rfl | exact aU (k := 3) rfl rfl)) ?_
 refine ai 14 rfl rfl (by kernel_rfl) (by kernel_rfl) (by kernel_rfl) rfl hS (ab rfl) ?_
 refine b0 15 (by kernel_rfl) rfl rfl (aS call252 rfl (Al W0 _ c q i hi hl hcap hs)) rfl ?_; clear hS
 rintro _ B_ ⟨rfl, hB_⟩
 obtain rfl := hB_.symm
 refine ⟨(aE (aE (iV (hcv _) aH))), fun hS => ?_⟩
 refine ai 16 rfl rfl (by kernel_rfl) (by kernel_rfl) (by kernel_rfl) rfl hS (aX rfl rfl) ?_
 refine ai 17 rfl rfl (by kernel_rfl) (by kernel_rfl) (by kernel_rfl) rfl hS (ag rfl) ?_
 refine cm (by kernel_rfl) ?_; clear hS
 refine a8 (ao (ak (.inl rfl) (.cons (aj rfl) .nil) ?_))
 refine ⟨_, ⟨?_, rfl⟩, inferInstance⟩
 refine congrArg Value.bool ?_
 rw [Bool.eq_iff_iff]
 simp_all
 ⟩
def jw (c : Cfg) : Bool := decide (8 < c.pl.length) || fX (lr c) c.pl.length
theorem An (W0 : World) (R : List HP) (c : Cfg) (hcap : c.pl.length ≤ c.pc) (hs : ∀ A, bU (bj W0 A) c.pa 2 d5 c.pl) (hgs : ∀ A, bU (bj W0 A) c.ga 3 en c.gl) :
    ax Tryz.prog W0 115 [.agg (cF c).toArray] R (fun v B => ∃ r, v = .tuple #[.int .i64 r, .bool (jw c)] ∧ B = R) := by
 refine aB func115 ntmps115 rfl rfl ?_
 refine aa (ae (ah rfl (bL rfl) ?_))
 rintro _ _ ⟨b1, rfl, rfl⟩
 refine a7 rfl (ag rfl) (a7 rfl (ag rfl) (ac (a8 (aa (aa (ae ?_))))))
 refine a7 rfl (ar rfl bW rfl np rfl (by first | exact Nat.zero_add _ | rfl)) ?_
 refine a7 rfl (ap pL rfl (az rfl)) ?_
 refine a7 rfl (aY jL rfl) (a7 rfl (cA rfl rfl) (ac (a8 ?_)))
 refine au rfl ?_ ?_
 intro c1
 refine aa (ae (a7 rfl (ag rfl) (a7 rfl (ag rfl) (ac (a8 (ao (aJ (ak (.inl rfl) (.cons (aj rfl) (.cons (aj rfl) .nil)) ?_))))))))
 rw [jw, decide_eq_true (by omega), Bool.true_or]
 exact ⟨_, ⟨0, rfl, rfl⟩, inferInstance⟩
 intro c1
 refine aA (a8 (aa (ae ?_)))
 refine a7 rfl (ar rfl bW rfl np rfl (by first | exact Nat.zero_add _ | rfl)) ?_
 refine a7 rfl (ap pL rfl (az rfl)) ?_
 refine a7 rfl (aY jL rfl) (a7 rfl (dz rfl rfl) ?_)
 refine ah rfl (aF nh rfl (oB W0 _ 250 [.pointer (some ⟨b1, 0, none⟩)] c.pl.length b1 _ (lr c) (Am W0 b1 c (by omega) hcap hs hgs) (by omega))) ?_
 rintro _ B_ ⟨r, rfl, hB_⟩
 obtain rfl := hB_.symm
 refine a7 rfl (aW rfl rfl) (a7 rfl (aW rfl rfl) (a7 rfl (ag rfl) (a7 rfl (ag rfl) (ac (a8 (ao (ak (.inl rfl) (.cons (aj rfl) (.cons (aj rfl) .nil)) ?_)))))))
 rw [jw, decide_eq_false (by omega), Bool.false_or]
 exact ⟨_, ⟨r, rfl, rfl⟩, inferInstance⟩
structure CfOk (W0 : World) (c : Cfg) : Prop where
  g : ∀ A, bU (bj W0 A) c.ga 3 en c.gl
  r : ∀ A, bU (bj W0 A) c.ra 3 en c.rl
  p : ∀ A, bU (bj W0 A) c.pa 2 d5 c.pl
  n : ∀ A, bU (bj W0 A) c.na 2 d5 c.nl
  s : ∀ A, bU (bj W0 A) c.sa 2 d5 c.sl
  pc : c.pl.length ≤ c.pc
def Ao (W0 : World) (c : Cfg) (C : HP) (l : List (Value × Int × Bool)) : Prop := ∀ x ∈ l, ∃ fn cs, x.1 = .func (.func fn) #[] cs.toArray ∧ (∀ args w, (callFunc fn args).run Tryz.prog w = .ok (.enter fn args) w) ∧
  ∀ R, ax Tryz.prog W0 fn ([] ++ [.agg (cF c).toArray] ++ cs) (kH 0 C :: R) (fun v B => ∃ r, v = .tuple #[.int .i64 r, .bool x.2.2] ∧ B = kH 0 C :: R)
def gA : List (Value × Int × Bool) → Int
 | [] => 0
 | x :: t => if x.2.2 then x.2.1 else gA t
theorem uJ : ∀ (l : List (Value × Int × Bool)) (i : Nat) (hi : i < l.length), (∀ j (hj : j < l.length), j < i → l[j].2.2 = false) → l[i].2.2 = true → gA l = l[i].2.1
 | x :: t, 0, _, _, h => by rw [gA, if_pos (by simpa using h)]; rfl
 | x :: t, i + 1, hi, h1, h2 => by
  have h0 := h1 0 (by simp) (by omega)
  rw [gA, if_neg (by simpa using h0), uJ t i (by simpa using hi) (fun j hj hji => by
   have := h1 (j + 1) (by simpa using hj) (by omega)
   simpa using this) (by simpa using h2)]
  simp
theorem uK : ∀ (l : List (Value × Int × Bool)), (∀ j (hj : j < l.length), l[j].2.2 = false) → gA l = 0
 | [], _ => rfl
 | x :: t, h => by
  have h0 := h 0 (by simp)
  rw [gA, if_neg (by simpa using h0), uK t (fun j hj => by
   have := h (j + 1) (by simpa using hj)
   simpa using this)]
def lu (x : Value × Int × Bool) : List Value := [x.1, .int .i64 x.2.1]
def dE (c : Cfg) (bg : Nat) : List (Value × Int × Bool) := [(.func (.func 113) #[] #[], 13, iG c), (.func (.func 114) #[] #[], 14, im c), (.func (.func 115) #[] #[], 15, jw c), (.func (.func 116) #[] #[], 16, iH c), (.func (.func 117) #[] #[], 17, jv c), (.func (.func 112) #[] #[.pointer (some ⟨bg, 0, none⟩)], 18, fY c)]
theorem Ap (W0 : World) (R : List HP) (bg : Nat) (x : Bool) (c : Cfg) : ax Tryz.prog W0 112 [.agg (cF c).toArray, .pointer (some ⟨bg, 0, none⟩)] (pt bg (am [.bool x] 4) :: R) (fun v B => v = .tuple #[.int .i64 0, .bool x] ∧ B = pt bg (am [.bool x] 4) :: R) := by
 refine aB func112 ntmps112 rfl rfl ?_
 refine aa (ae (ah rfl (bL rfl) ?_))
 rintro _ _ ⟨b2, rfl, rfl⟩
 refine a7 rfl (ag rfl) (a7 rfl (ag rfl) (ac (a8 (aa ?_))))
 refine di [(bg, 0, _)] 3 d4 rfl (aE aH) (fun hS => ?_)
 refine ai 0 rfl rfl (by kernel_rfl) (by kernel_rfl) (by kernel_rfl) rfl hS (ap gd rfl (aU (k := 0) rfl rfl)) ?_
 refine ai 1 rfl rfl (by kernel_rfl) (by kernel_rfl) (by kernel_rfl) rfl hS (ag rfl) ?_
 refine ai 2 rfl rfl (by kernel_rfl) (by kernel_rfl) (by kernel_rfl) rfl hS (ag rfl) ?_
 refine cm (by kernel_rfl) ?_; clear hS
 refine a8 (ao (ak (.inl rfl) (.cons (aj rfl) (.cons (aj rfl) .nil)) ?_))
 exact ⟨_, ⟨rfl, rfl⟩, inferInstance⟩
theorem Aq (x : Bool) : ax Tryz.prog W0 111 [.bool x] R (fun v B => ∃ bg, v = .func (.func 112) #[] #[.pointer (some ⟨bg, 0, none⟩)] ∧ B = pt bg (am [.bool x] 4) :: R) := by
 refine aB func111 ntmps111 rfl rfl ?_
 refine aa (ae (ah rfl (eW rfl rfl) ?_))
 rintro _ _ ⟨bg, rfl, rfl⟩
 refine a7 rfl (ag rfl) (ac (a8 (aa (ae (a7 rfl (dz rfl rfl) ?_)))))
 refine a7 rfl (ag rfl) (ac (a8 (ao (ak (.inl rfl) (.cons (aj rfl) .nil) ?_))))
 exact ⟨_, ⟨bg, rfl, rfl⟩, inferInstance⟩
theorem Ar (W0 : World) (c : Cfg) (h : CfOk W0 c) (bg : Nat) : Ao W0 c (bC [pt bg (am [.bool (fY c)] 4)]) (dE c bg) := by
 intro x hx
 simp only [dE, List.mem_cons, List.not_mem_nil, or_false] at hx
 rcases hx with rfl | rfl | rfl | rfl | rfl | rfl
 exact ⟨_, [], rfl, call113, fun R => zY W0 _ c h.g⟩
 exact ⟨_, [], rfl, call114, fun R => Ak W0 _ c h.r⟩
 exact ⟨_, [], rfl, call115, fun R => An W0 _ c h.pc h.p h.g⟩
 exact ⟨_, [], rfl, call116, fun R => A3 W0 _ c h.n h.g⟩
 exact ⟨_, [], rfl, call117, fun R => A0 W0 _ c h.s⟩
 exact ⟨_, [.pointer (some ⟨bg, 0, none⟩)], rfl, call112, fun R => jq (nU (Ap W0 R bg (fY c) c) fun v B hB => by
  obtain ⟨rfl, rfl⟩ := hB
  exact ⟨_, ⟨0, rfl, rfl⟩, inferInstance⟩)⟩
def gX (c : Cfg) : Int := if c.cats < 0 ∨ 8 < c.cats then 12 else if iG c then 13 else if im c then 14 else if jw c then 15 else if iH c then 16 else if jv c then 17 else if fY c then 18 else if 32 < dR c c.gl.length then 19 else 0
theorem As (c : Cfg) (bg : Nat) (h : ¬ (c.cats < 0 ∨ 8 < c.cats)) : gX c = if gA (dE c bg) = 0 ∧ 32 < dR c c.gl.length then 19 else gA (dE c bg) := by
 rw [gX, if_neg h]
 simp only [dE, gA]
 generalize iG c = a1; generalize im c = a2; generalize jw c = a3; generalize iH c = a4; generalize jv c = a5; generalize fY c = a6
 cases a1 <;> cases a2 <;> cases a3 <;> cases a4 <;> cases a5 <;> cases a6 <;> simp
theorem mB {w : Nat → Bool} {n i : Nat} (h : fX w n = false) (hi : i < n) : w i = false := by
 rw [← Bool.not_eq_true]; intro q
 rw [zV hi q] at h; cases h
theorem uL {c : Cfg} (h : iG c = false) : 1 ≤ c.gl.length ∧ c.gl.length ≤ 4 ∧ ∀ g ∈ c.gl, dM g.1 c.cats = true ∧ 1 ≤ g.2.1 ∧ g.2.1 ≤ 8 ∧ 0 ≤ g.2.2 ∧ g.2.2 ≤ 8 - g.2.1 := by
 simp only [iG, Bool.or_eq_false_iff, decide_eq_false_iff_not] at h
 obtain ⟨h1, h2⟩ := h
 refine ⟨by omega, by omega, fun g hg => ?_⟩
 obtain ⟨i, hi, rfl⟩ := List.getElem_of_mem hg
 have := mB h2 hi
 rw [show c.gl.getD i (0, 0, 0) = c.gl[i] by simp [List.getD, hi]] at this
 exact oA.1 this
theorem rf {c : Cfg} (h : im c = false) : c.rl.length ≤ 8 ∧ ∀ r ∈ c.rl, dM r.1 c.cats = true ∧ 0 ≤ r.2.1 ∧ 1 ≤ r.2.2 ∧ r.2.1 + r.2.2 ≤ 32 := by
 simp only [im, Bool.or_eq_false_iff, decide_eq_false_iff_not] at h
 obtain ⟨h1, h2⟩ := h
 refine ⟨by omega, fun r hr => ?_⟩
 obtain ⟨i, hi, rfl⟩ := List.getElem_of_mem hr
 have := mB h2 hi
 rw [kh, show eo c i = c.rl[i] by simp [eo, List.getD, hi], Bool.not_eq_false', Bool.and_eq_true, decide_eq_true_iff] at this
 obtain ⟨q1, q2⟩ := this
 refine ⟨q1, ?_⟩
 unfold dC at q2
 split at q2
 exact absurd q2 (by decide)
 omega
theorem oH (W0 : World) (R : List HP) (c : Cfg) (h : CfOk W0 c) :
    ax Tryz.prog W0 45 [.agg (cF c).toArray] R (fun v B => ∃ at_, v = .tuple #[.int .i64 (gX c), .int .i64 at_] ∧ B = R) := by
 refine aB func45 ntmps45 rfl rfl ?_
 refine aa (ae (ah rfl (bL rfl) ?_))
 rintro _ _ ⟨b1, rfl, rfl⟩
 refine a7 rfl (ag rfl) (a7 rfl (ag rfl) (ac (a8 (u7 (aa (ae (a7 rfl (ag rfl) (ac (a8 (aa (aa (ae ?_))))))))))))
 refine a7 rfl (ar rfl bW rfl aC rfl (by first | exact Nat.zero_add _ | rfl)) ?_
 refine a7 rfl (ap aM rfl (az rfl)) ?_
 refine a7 rfl (aV rfl rfl) (a7 rfl (ab rfl) ?_)
 refine bJ rfl rfl rfl ?_ ?_
 intro g2_4
 refine aD rfl rfl rfl rfl (aD rfl rfl rfl rfl (a7 rfl (bI rfl rfl) (ac (a8 (cI rfl (aa (ae (a7 rfl (ag rfl) (a7 rfl (ag rfl) (ac (a8 (ao (aJ (kc (ak (.inl rfl) (.cons (aj rfl) (.cons (aj rfl) .nil)) ?_)))))))))))))))
 have he : gX c = 12 := by rw [gX, if_pos (by omega)]
 rw [he]
 exact ⟨_, ⟨0, rfl, rfl⟩, inferInstance⟩
 intro g2_4
 refine a7 rfl (ar rfl bW rfl aC rfl (by first | exact Nat.zero_add _ | rfl)) ?_
 refine av rfl rfl (a7 rfl (ap aM rfl (az rfl)) ?_)
 refine av rfl rfl (a7 rfl (cA rfl rfl) (a7 rfl (aX rfl rfl) (ac (a8 ?_))))
 refine au rfl ?_ ?_
 intro c2
 refine aa (ae (a7 rfl (ag rfl) (a7 rfl (ag rfl) (ac (a8 (ao (aJ (kc (ak (.inl rfl) (.cons (aj rfl) (.cons (aj rfl) .nil)) ?_)))))))))
 have he : gX c = 12 := by rw [gX, if_pos (by omega)]
 rw [he]
 exact ⟨_, ⟨0, rfl, rfl⟩, inferInstance⟩
 intro c2
 refine aA (a8 (aa (ae (a7 rfl (ag rfl) (a7 rfl (ag rfl) (ac (a8 (aa (t4 (a8 ?_))))))))))
 refine gQ (fun e : Int × Int => e.1 = gA (dE c 0) ∧ ¬ (c.cats < 0 ∨ 8 < c.cats)) (fun e => [(1, .pointer (some ⟨b1, 0, none⟩)), (5, .int .i64 e.2), (6, .int .i64 e.1)]) (fun _ => pt b1 (eh c) :: R) ?_ ?_
 skip
 refine aa (ae (a7 rfl (cq kI kJ (aK i7 (aK i8 cp)) (bB rfl i7 rfl rfl (Nat.le_of_ble_eq_true rfl) SetL.eq (bB rfl i8 rfl rfl (Nat.le_of_ble_eq_true rfl) SetL.eq co))) ?_))
 refine a7 rfl (cq kI kJ (aK i7 (aK i8 cp)) (bB rfl i7 rfl rfl (Nat.le_of_ble_eq_true rfl) SetL.eq (bB rfl i8 rfl rfl (Nat.le_of_ble_eq_true rfl) SetL.eq co))) ?_
 refine a7 rfl (cq kI kJ (aK i7 (aK i8 cp)) (bB rfl i7 rfl rfl (Nat.le_of_ble_eq_true rfl) SetL.eq (bB rfl i8 rfl rfl (Nat.le_of_ble_eq_true rfl) SetL.eq co))) ?_
 refine a7 rfl (cq kI kJ (aK i7 (aK i8 cp)) (bB rfl i7 rfl rfl (Nat.le_of_ble_eq_true rfl) SetL.eq (bB rfl i8 rfl rfl (Nat.le_of_ble_eq_true rfl) SetL.eq co))) ?_
 refine a7 rfl (cq kI kJ (aK i7 (aK i8 cp)) (bB rfl i7 rfl rfl (Nat.le_of_ble_eq_true rfl) SetL.eq (bB rfl i8 rfl rfl (Nat.le_of_ble_eq_true rfl) SetL.eq co))) ?_
 refine a7 rfl (ab rfl) (a7 rfl (cC cR ce rfl rfl) ?_)
 refine ah rfl (aS call118 rfl (A1 c)) ?_
 rintro _ B_ ⟨rfl, hB_⟩
 obtain rfl := hB_.symm
 refine ah rfl (iB rfl call111 rfl (Aq (fY c))) ?_
 rintro _ B_ ⟨bg, rfl, hB_⟩
 obtain rfl := hB_.symm
 refine a7 rfl (cq kI kJ (aK i7 (aK i8 cp)) (bB rfl i7 rfl rfl (Nat.le_of_ble_eq_true rfl) SetL.eq (bB rfl i8 rfl rfl (Nat.le_of_ble_eq_true rfl) SetL.eq co))) ?_
 refine ah rfl (fM xj so kJ rfl (eB rfl rfl (eB rfl rfl (eB rfl rfl (eB rfl rfl (eB rfl rfl (eB rfl rfl fK)))))) rfl (by decide) (by decide) (by decide)) ?_
 rintro _ _ ⟨bl, rfl, rfl⟩
 refine ka (b := bl) (o' := am ((dE c bg).flatMap lu) 258) rfl ?_
 refine a7 rfl (aY xj rfl) (a7 rfl (ab rfl) (ac (a8 (aP ?_))))
 refine bX (fun i : Nat => i ≤ 6 ∧ ∀ j (hj : j < (dE c bg).length), j < i → ((dE c bg)[j]).2.2 = false) (fun i => [(1, .pointer (some ⟨b1, 0, none⟩)), (5, .int .i64 0), (6, .int .i64 0), (29, .slice (some ⟨bl, 0, none⟩) 6 6), (30, .int .i64 6), (31, .int .i64 i)]) (fun _ => pt bl (am ((dE c bg).flatMap lu) 258) :: pt b1 (eh c) :: kH 0 (bC [pt bg (am [.bool (fY c)] 4)]) :: R) (fun i => 6 - i) 0 ?_ ?_ ?_ ?_
 exact ⟨Nat.zero_le _, fun j hj q => absurd q (Nat.not_lt_zero _)⟩
 · repeat (first | exact aQ | refine aO rfl ?_)
 exact inferInstance
 intro i ⟨hi, hI⟩
 refine aa (ae (a7 rfl (aV rfl rfl) (ac (a8 (aa ?_)))))
 refine au rfl ?_ ?_
 intro c6
 refine aA (a8 (aa (aP (aa ?_))))
 have hi1 : i < 6 := by omega
 have hlen : (dE c bg).length = 6 := rfl
 have hil : i < (dE c bg).length := by rw [hlen]; exact hi1
 have hok := Ar W0 c h bg (dE c bg)[i] (List.getElem_mem hil)
 have hEq := uJ (dE c bg) i hil hI
 have hnx : (dE c bg)[i].2.2 = false → ∀ j (hj : j < (dE c bg).length), j < i + 1 → ((dE c bg)[j]).2.2 = false := fun q j hj hji => by
  rcases Nat.lt_or_ge j i with q2 | q2
  exact hI j hj q2
  obtain rfl : j = i := by omega
  exact q
 have hcell : cB (bj W0 (pt bl (am ((dE c bg).flatMap lu) 258) :: pt b1 (eh c) :: kH 0 (bC [pt bg (am [.bool (fY c)] 4)]) :: R)) bl (i * 2) (lu (dE c bg)[i]) := by
  obtain ⟨b, off, e1, hc⟩ := mt (W0 := W0) (A := pt bl (am ((dE c bg).flatMap lu) 258) :: pt b1 (eh c) :: kH 0 (bC [pt bg (am [.bool (fY c)] 4)]) :: R) (f := lu) (sz := 2) (xs := dE c bg) (b := bl) (fun _ => rfl) rfl i (dE c bg)[i] (by simp [hil])
  cases e1
  rwa [Nat.zero_add] at hc
 generalize hy : (dE c bg)[i] = y at hok hEq hnx hcell
 obtain ⟨yv, ye, yb⟩ := y
 obtain ⟨fn, cs, rfl, hcall, hsp⟩ := hok
 dsimp only at hEq hnx hsp
 refine ae ?_
 refine a7 rfl (bK xj so rfl rfl rfl hi1 (by first | exact Nat.zero_add _ | rfl)) ?_
 refine a7 rfl (bN isAgg258 so rfl hcell rfl) ?_
 refine ah rfl (cH kJ) ?_
 rintro _ _ ⟨bx, rfl, rfl⟩
 refine bc (cD so rfl rfl rfl rfl rfl) ?_
 rintro _ _ rfl
 refine ac (a8 (aa (ae ?_)))
 refine a7 rfl (ar rfl kI rfl i7 rfl (by first | exact Nat.zero_add _ | rfl)) ?_
 refine a7 rfl (ap isAgg255 rfl (az rfl)) ?_
 refine a7 rfl (cC cR ce rfl rfl) ?_
 refine ah rfl (qm (us := []) (cs := cs) rfl hcall rfl (hsp _)) ?_
 rintro _ B_ ⟨r_, rfl, hB_⟩
 obtain rfl := hB_.symm
 refine a7 rfl (ab rfl) (a7 rfl (aW rfl rfl) (a7 rfl (aW rfl rfl) (a7 rfl (ag rfl) (a7 rfl (ag rfl) (ac (a8 (aa (ae (a7 rfl (ab rfl) (ac (a8 ?_)))))))))))
 refine au rfl ?_ ?_
 intro c9
 refine aa ?_
 refine di [(bx, 0, _)] 5 d4 rfl (aE aH) (fun hS => ?_)
 refine ai 0 rfl rfl (by kernel_rfl) (by kernel_rfl) (by kernel_rfl) rfl hS (ab rfl) ?_
 refine ai 1 rfl rfl (by kernel_rfl) (by kernel_rfl) (by kernel_rfl) rfl hS (ar rfl kI rfl i8 rfl (by first | exact Nat.zero_add _ | rfl)) ?_
 refine ai 2 rfl rfl (by kernel_rfl) (by kernel_rfl) (by kernel_rfl) rfl hS (ap isAgg51 rfl (aU (k := 0) rfl rfl)) ?_
 refine ai 3 rfl rfl (by kernel_rfl) (by kernel_rfl) (by kernel_rfl) rfl hS (ag rfl) ?_
 refine ai 4 rfl rfl (by kernel_rfl) (by kernel_rfl) (by kernel_rfl) rfl hS (ag rfl) ?_
 refine cm (by kernel_rfl) ?_; clear hS
 refine a8 (bF (dY rfl (aR (aR (bH (a8 ?_))))))
 refine dG (ye, r_) ?_ ?_ ?_
 exact ⟨(hEq c9).symm, by omega⟩
 · repeat (first | exact aQ | refine aO rfl ?_)
 exact inferInstance
 intro c9
 refine aA (bw (a8 (ae ?_)))
 refine a7 rfl (bz rfl rfl (by first | exact aT (by omega) | rfl)) ?_
 refine a7 rfl (ab rfl) (ac (a8 ?_))
 refine cg (i + 1) ?_ ?_ ?_ ?_
 exact ⟨by omega, hnx (by simpa using c9)⟩
 omega
 · repeat (first | exact aQ | refine aO rfl ?_)
 exact inferInstance
 intro c6
 refine bF (aR (aR (bH (a8 ?_))))
 refine dG ((0 : Int), (0 : Int)) ?_ ?_ ?_
 obtain rfl : i = 6 := by omega
 exact ⟨(uK _ fun j hj => hI j hj (by have : (dE c bg).length = 6 := rfl; omega)).symm, by omega⟩
 · repeat (first | exact aQ | refine aO rfl ?_)
 exact inferInstance
 intro ⟨e, at_⟩ ⟨he, hcat⟩
 dsimp only at he ⊢
 have hce := As c 0 hcat
 rw [← he] at hce
 refine aa (aa (ae (a7 rfl (ab rfl) (a7 rfl (cu rfl rfl) (a7 rfl (ab rfl) ?_)))))
 refine dh rfl rfl rfl ?_ ?_
 intro g12_3
 have hall : gA (dE c 0) = 0 := by rw [← he]; exact g12_3
 have hgr : iG c = false := by
  rw [← Bool.not_eq_true]; intro q; simp only [dE, gA, q, if_true] at hall; exact absurd hall (by decide)
 have hri : iH c = false := by
  rw [← Bool.not_eq_true]; intro q; simp only [dE, gA, q, if_true] at hall; split at hall <;> (try split at hall) <;> (try split at hall) <;> exact absurd hall (by decide)
 obtain ⟨k1, k2, k3⟩ := uL hgr
 have k4 : c.nl.length ≤ 4 := by
  simp only [iH, Bool.or_eq_false_iff, decide_eq_false_iff_not] at hri; omega
 refine a7 rfl (cC cR ce rfl rfl) ?_
 refine av rfl rfl ?_
 refine ah rfl (aS xk rfl (qX W0 _ c h.g (fun g hg => (k3 g hg).2) k4 k2)) ?_
 rintro _ B_ ⟨rfl, hB_⟩
 obtain rfl := hB_.symm
 refine av rfl rfl (a7 rfl (cA rfl rfl) (a7 rfl (bI rfl rfl) (ac (a8 ?_))))
 refine au rfl ?_ ?_
 intro c12
 refine aa (ae (a7 rfl (ag rfl) (a7 rfl (ag rfl) (ac (a8 (ao (aJ (kc (ak (.inl rfl) (.cons (aj rfl) (.cons (aj rfl) .nil)) ?_)))))))))
 rw [hce, if_pos (by omega)]
 exact ⟨_, ⟨0, rfl, rfl⟩, inferInstance⟩
 intro c12
 refine aA (a8 (aa (ae (a7 rfl (ab rfl) (a7 rfl (ab rfl) (a7 rfl (ag rfl) (a7 rfl (ag rfl) (ac (a8 (ao (kc (ak (.inl rfl) (.cons (aj rfl) (.cons (aj rfl) .nil)) ?_))))))))))))
 rw [hce, if_neg (by omega)]
 exact ⟨_, ⟨_, rfl, rfl⟩, inferInstance⟩
 intro g12_3
 refine aD rfl rfl rfl rfl (aD rfl rfl rfl rfl (a7 rfl (aX rfl rfl) (ac (a8 (iA rfl (aA (a8 (aa (ae (a7 rfl (ab rfl) (a7 rfl (ab rfl) (a7 rfl (ag rfl) (a7 rfl (ag rfl) (ac (a8 (ao (kc (ak (.inl rfl) (.cons (aj rfl) (.cons (aj rfl) .nil)) ?_))))))))))))))))))
 rw [hce, if_neg (by omega)]
 exact ⟨_, ⟨_, rfl, rfl⟩, inferInstance⟩
def rt (c : Cfg) : Bool := decide (gX c = 0)
theorem oI (W0 : World) (R : List HP) (c : Cfg) (h : CfOk W0 c) :
    ax Tryz.prog W0 120 [.agg (cF c).toArray] R (fun v B => v = .bool (rt c) ∧ B = R) := by
 refine aB func120 ntmps120 rfl rfl ?_
 refine aa (ae (ah rfl (bL rfl) ?_))
 rintro _ _ ⟨b1, rfl, rfl⟩
 refine a7 rfl (ag rfl) (ac (a8 (aa (ae (a7 rfl (cC cR ce rfl rfl) ?_)))))
 refine ah rfl (aS sq rfl (oH W0 _ c h)) ?_
 rintro _ B_ ⟨at_, rfl, hB_⟩
 obtain rfl := hB_.symm
 refine a7 rfl (ab rfl) (a7 rfl (aW rfl rfl) (a7 rfl (aW rfl rfl) (a7 rfl (ag rfl) (a7 rfl (ag rfl) (ac (a8 (aa (ae (a7 rfl (ab rfl) (a7 rfl (cu rfl rfl) (a7 rfl (ag rfl) (ac (a8 (ao (ak (.inl rfl) (.cons (aj rfl) .nil) ?_)))))))))))))))
 refine ⟨_, ⟨?_, rfl⟩, inferInstance⟩
 refine congrArg Value.bool ?_
 rw [Bool.eq_iff_iff, rt]; simp
theorem kj {c : Cfg} (h : rt c = true) : 0 ≤ c.cats ∧ c.cats ≤ 8 ∧ iG c = false ∧ im c = false ∧ jw c = false ∧ iH c = false ∧ jv c = false ∧ fY c = false ∧ dR c c.gl.length ≤ 32 := by
 have h := of_decide_eq_true h
 unfold gX at h
 split at h
 exact absurd h (by decide)
 rename_i q1
 repeat' split at h
 all_goals first | exact absurd h (by decide) | skip
 rename_i q2 q3 q4 q5 q6 q7 q8
 exact ⟨by omega, by omega, by simpa using q2, by simpa using q3, by simpa using q4, by simpa using q5, by simpa using q6, by simpa using q7, by omega⟩
def lv (c : Cfg) (at_ : Int) (i : Nat) : Bool := decide ((eo c i).2.1 ≤ at_ ∧ at_ - (eo c i).2.1 < (eo c i).2.2)
def lw (c : Cfg) (at_ : Int) : Option Nat := if rt c = true ∧ 0 ≤ at_ then gx (lv c at_) c.rl.length else none
theorem Au (W0 : World) (b1 b3 : Nat) (c : Cfg) (at_ : Int) (ha : 0 ≤ at_ ∧ at_ < 9223372036854775808) (hb : ∀ r ∈ c.rl, 0 ≤ r.2.1 ∧ r.2.1 ≤ 32) (hs : ∀ A, bU (bj W0 A) c.ra 3 en c.rl) :
    WF W0 289 [.pointer (some ⟨b1, 0, none⟩), .pointer (some ⟨b3, 0, none⟩)] c.rl.length (fun _ => bC [pt b1 (eh c), pt b3 (am [.int .i64 at_] 3)]) (lv c at_) := ⟨call289, fun i hi R => by
 refine jq ?_
 simp only [List.cons_append, List.nil_append]
 obtain ⟨g, o, hra, hc⟩ := (hs (pt b1 (eh c) :: R)).at_ hi
 obtain ⟨x, hx⟩ : ∃ x, c.rl[i] = x := ⟨_, rfl⟩
 have hA : eo c i = x := by simp [eo, List.getD, hi, hx]
 have hbx := hb _ (List.getElem_mem hi)
 rw [hx] at hc hbx
 rw [lv, hA]
 refine aB func289 ntmps289 rfl rfl ?_
 refine aa (ae (a7 rfl (ag rfl) (ac (a8 (aa (ae ?_))))))
 refine a7 rfl (ar rfl bW rfl lV rfl (by first | exact Nat.zero_add _ | rfl)) ?_
 refine a7 rfl (ap nk rfl (az rfl)) ?_
 refine a7 rfl (ab rfl) ?_
 refine a7 rfl (fZ kG jS rfl hra rfl rfl hi (by first | exact Nat.zero_add _ | rfl)) ?_
 refine a7 rfl (bN xh jS rfl hc.weak rfl) ?_
 refine ah rfl (cH xi) ?_
 rintro _ _ ⟨bx, rfl, rfl⟩
 refine bc (cD jS rfl rfl rfl rfl rfl) ?_
 rintro _ _ rfl
 refine ac (a8 (aa (ae (a7 rfl (ap aM rfl (az rfl)) ?_))))
 refine a7 rfl (ar rfl ja rfl aC rfl (by first | exact Nat.zero_add _ | rfl)) ?_
 refine a7 rfl (ap aM rfl (az rfl)) ?_
 refine a7 rfl (dr rfl rfl) (a7 rfl (ab rfl) ?_)
 refine dh rfl rfl rfl ?_ ?_
 intro g2_5
 refine a7 rfl (ap aM rfl (az rfl)) ?_
 refine av rfl rfl ?_
 refine a7 rfl (ar rfl ja rfl aC rfl (by first | exact Nat.zero_add _ | rfl)) ?_
 refine av rfl rfl (a7 rfl (ap aM rfl (az rfl)) ?_)
 refine av rfl rfl ?_
 refine a7 rfl (d7 rfl rfl (aT (by omega))) ?_
 refine av rfl rfl ?_
 refine a7 rfl (ar rfl ja rfl aC rfl (by first | exact Nat.zero_add _ | rfl)) ?_
 refine av rfl rfl (a7 rfl (ap aM rfl (az rfl)) ?_)
 refine av rfl rfl (a7 rfl (aV rfl rfl) (a7 rfl (bI rfl rfl) (a7 rfl (ag rfl) (ac (a8 (ao (ak (.inl rfl) (.cons (aj rfl) .nil) ?_)))))))
 refine ⟨_, ⟨?_, rfl⟩, ?_⟩
 refine congrArg Value.bool ?_
 rw [Bool.eq_iff_iff, decide_eq_true_iff]
 first
   | (rw [decide_eq_true_iff]; constructor <;> (intro q; omega))
   | (constructor
      · intro q; first | omega | (cases q)
      intro q; omega)
 exact inferInstance
 intro g2_5
 refine aD rfl rfl rfl rfl (aD rfl rfl rfl rfl (aD rfl rfl rfl rfl (aD rfl rfl rfl rfl (aD rfl rfl rfl rfl (aD rfl rfl rfl rfl (a7 rfl (aX rfl rfl) (a7 rfl (ag rfl) (ac (a8 (ao (ak (.inl rfl) (.cons (aj rfl) .nil) ?_)))))))))))
 refine ⟨_, ⟨?_, rfl⟩, ?_⟩
 refine congrArg Value.bool ?_
 rw [Bool.eq_iff_iff, decide_eq_true_iff]
 first
   | (rw [decide_eq_true_iff]; constructor <;> (intro q; omega))
   | (constructor
      · intro q; first | omega | (cases q)
      intro q; omega)
 exact inferInstance
 ⟩
def uM : Option Nat → Int
 | some i => (i : Int)
 | none => -1
theorem Av (W0 : World) (R : List HP) (c : Cfg) (h : CfOk W0 c) (at_ : Int) (ha : at_ < 9223372036854775808) :
    ax Tryz.prog W0 166 [.agg (cF c).toArray, .int .i64 at_] R (fun v B => v = .int .i64 (uM (lw c at_)) ∧ B = R) := by
 obtain ⟨w, hw⟩ : ∃ w, rt c = w := ⟨_, rfl⟩
 have hO : lw c at_ = if w = true ∧ 0 ≤ at_ then gx (lv c at_) c.rl.length else none := by rw [lw, hw]
 rw [hO]
 refine aB func166 ntmps166 rfl rfl ?_
 refine aa (ae (ah rfl (bL rfl) ?_))
 rintro _ _ ⟨b2, rfl, rfl⟩
 refine ah rfl (eW rfl rfl) ?_
 rintro _ _ ⟨b3, rfl, rfl⟩
 refine a7 rfl (ag rfl) (ac (a8 (aa (aa (ae (a7 rfl (cC cR ce rfl rfl) ?_))))))
 refine ah rfl (aS sr rfl (oI W0 _ c h)) ?_
 rintro _ B_ ⟨rfl, hB_⟩
 obtain rfl := hB_.symm
 rw [hw]
 refine a7 rfl (bM rfl) (a7 rfl (ab rfl) ?_)
 refine bJ rfl rfl rfl ?_ ?_
 intro g1_4
 refine aD rfl rfl rfl rfl (a7 rfl (bI rfl rfl) (ac (a8 (cI rfl (aa (ae (a7 rfl (ag rfl) (ac (a8 (ao (aJ (ak (.inl rfl) (.cons (aj rfl) .nil) ?_))))))))))))
 rw [if_neg (by first | (rintro ⟨q1, q2⟩; omega) | (rintro ⟨q1, q2⟩; simp_all))]
 exact ⟨_, ⟨rfl, rfl⟩, inferInstance⟩
 intro g1_4
 refine a7 rfl (ap aM rfl (az rfl)) ?_
 refine av rfl rfl (a7 rfl (aV rfl rfl) (a7 rfl (aX rfl rfl) (ac (a8 ?_))))
 refine au rfl ?_ ?_
 intro c1
 refine aa (ae (a7 rfl (ag rfl) (ac (a8 (ao (aJ (ak (.inl rfl) (.cons (aj rfl) .nil) ?_)))))))
 rw [if_neg (by first | (rintro ⟨q1, q2⟩; omega) | (rintro ⟨q1, q2⟩; simp_all))]
 exact ⟨_, ⟨rfl, rfl⟩, inferInstance⟩
 intro c1
 refine aA (a8 (aa ?_))
 have hw1 : w = true := by
  cases w with
  | true => rfl
  | false => first | exact absurd rfl g1_4 | exact absurd (by decide) g1_4
 have hat : 0 ≤ at_ := by omega
 rw [if_pos ⟨hw1, hat⟩]
 have hk := kj (hw.trans hw1)
 obtain ⟨k1, k2⟩ := rf hk.2.2.2.1
 obtain ⟨o, ho⟩ : ∃ o, gx (lv c at_) c.rl.length = o := ⟨_, rfl⟩
 rw [ho]
 refine ae (a7 rfl (dz rfl rfl) ?_)
 refine a7 rfl (ag rfl) (ac (a8 (aa (aa (ae ?_)))))
 refine a7 rfl (ar rfl bW rfl lV rfl (by first | exact Nat.zero_add _ | rfl)) ?_
 refine a7 rfl (ap nk rfl (az rfl)) ?_
 refine a7 rfl (aY kG rfl) (a7 rfl (ab rfl) ?_)
 refine ah rfl (fc (B := kH 0 (bC [pt b2 (eh c), pt b3 (am [.int .i64 at_] 3)]) :: R) inferInstance (aS nh rfl (un W0 R 289 [.pointer (some ⟨b2, 0, none⟩), .pointer (some ⟨b3, 0, none⟩)] c.rl.length (fun _ => bC [pt b2 (eh c), pt b3 (am [.int .i64 at_] 3)]) (lv c at_) (Au W0 b2 b3 c at_ ⟨hat, ha⟩ (fun r hr => by have := k2 r hr; omega) h.r) (by omega)))) ?_
 rintro _ B_ ⟨rfl, hB_⟩
 obtain rfl := hB_.symm
 rw [ho]
 refine a7 rfl (ab rfl) (a7 rfl (aW rfl rfl) (a7 rfl (aW rfl rfl) (a7 rfl (ag rfl) (a7 rfl (ag rfl) (ac (a8 (aa (ae (a7 rfl (ab rfl) (ac (a8 ?_)))))))))))
 refine au rfl ?_ ?_
 intro c5
 refine aa (ae (a7 rfl (ab rfl) (a7 rfl (ag rfl) (ac (a8 (ao (aJ (ak (.inl rfl) (.cons (aj rfl) .nil) ?_))))))))
 obtain ⟨i, rfl⟩ : ∃ i, o = some i := Option.isSome_iff_exists.1 c5
 exact ⟨_, ⟨rfl, rfl⟩, inferInstance⟩
 intro c5
 refine aA (a8 (aa (ae (a7 rfl (ag rfl) (ac (a8 (ao (ak (.inl rfl) (.cons (aj rfl) .nil) ?_))))))))
 have hn : o = none := by
  cases o with
  | none => rfl
  | some i => exact absurd rfl c5
 subst hn
 exact ⟨_, ⟨rfl, rfl⟩, inferInstance⟩
section
variable {P : Program} {S : World → Prop} {W0 : World} {N : FSz} {e : bq} {A R : List HP} {t t' : TypeId} {x : Operand} {bs : List Nat} {a : Option Addr} {c n : Nat}
end
end
section
open Go.ChangeShapes Go.WideShapes Go.ChangeAt Go.RowKit
def jx (P : Program) (w : World) : Nat → TypeId → List Value → Prop
 | 0, _, _ => False
 | fuel + 1, t, cs =>
  match P.underlying t with
  | some .bool => ∃ b, cs = [.bool b]
  | some (.int k) => ∃ n, cs = [.int k n] ∧ (Lit.int k n).wf = true
  | some .string => ∃ s, cs = [.string s] ∧ s.size ≤ maxLen
  | some (.slice e) => cs = [.slice none 0 0] ∨ ∃ a len cap, cs = [.slice (some a) len cap] ∧ len ≤ cap ∧ cap ≤ maxLen ∧
      ∀ i, i < len → ∃ cs', w.cells? 0 (a.add (i * P.cellsOf e)) (P.cellsOf e) = some cs' ∧ jx P w fuel e cs'
  | some (.struct fs) => cs.length = P.cellsOf t ∧ ∀ f : Field, f ∈ fs.toList → jx P w fuel f.type ((cs.drop f.offset).take (P.cellsOf f.type))
  | some (.array n e) => cs.length = P.cellsOf t ∧ ∀ i, i < n → jx P w fuel e ((cs.drop (i * P.cellsOf e)).take (P.cellsOf e))
  | _ => True
section
variable {H : Type} {enc : TypeId × Value → H} {P : Program} {w W : World}
theorem oJ {sp : Nat → Bool} : ∀ (fuel : Nat) (t : TypeId) (cs : List Value) (x : DataW H × List MemPlace), DataW.trod enc P w 0 sp true fuel t cs = some x → jx P w fuel t cs
 | 0, t, cs, x, h => by simp [DataW.trod] at h
 | fuel + 1, t, cs, x, h => by
  unfold jx
  cases hu : P.underlying t with
  | none => trivial
  | some d =>
   cases d with
   | bool =>
    simp only []
    unfold DataW.trod at h; simp only [hu] at h
    split at h <;> simp_all
   | int k =>
    simp only []
    obtain ⟨n, hc, _, hw⟩ := DataW.trod_int hu h
    exact ⟨n, hc, hw⟩
   | string =>
    simp only []
    unfold DataW.trod at h; simp only [hu] at h
    split at h <;> simp_all
   | slice e =>
    simp only []
    rcases DataW.trod_slice hu h with ⟨hc, _⟩ | ⟨a, len, cap, elems, rest, n, hf, hc, _, _, hl, hm, hle, hel, _⟩
    exact .inl hc
    refine .inr ⟨a, len, cap, hc, hl, hm, fun i hi => ?_⟩
    obtain rfl : fuel = n := by omega
    have h1 := hel i hi
    have h2 : elems[i]? = some elems[i] := by simp
    rw [h2] at h1
    cases hcs : w.cells? 0 (a.add (i * P.cellsOf e)) (P.cellsOf e) with
    | none => rw [hcs] at h1; cases h1
    | some cs' =>
     rw [hcs] at h1
     exact ⟨cs', rfl, oJ fuel e cs' _ h1⟩
   | struct fs =>
    simp only []
    obtain ⟨xs, n, hf, _, hlen, hxs, hel⟩ := DataW.trod_struct hu h
    obtain rfl : fuel = n := by omega
    refine ⟨hlen, fun f hm => ?_⟩
    obtain ⟨i, hi, hfi⟩ := List.getElem_of_mem hm
    have h1 := hel i f (by simp at hi; simp [← hfi, hi])
    have h2 : xs[i]? = some (xs[i]'(by simp at hi; omega)) := by simp at hi; simp [hxs, hi]
    rw [h2] at h1
    exact oJ fuel _ _ _ h1
   | array n e =>
    simp only []
    obtain ⟨xs, m, hf, _, hlen, hxs, hel⟩ := DataW.trod_array hu h
    obtain rfl : fuel = m := by omega
    refine ⟨hlen, fun i hi => ?_⟩
    have h1 := hel i hi
    have h2 : xs[i]? = some (xs[i]'(by omega)) := by simp [hxs, hi]
    rw [h2] at h1
    exact oJ fuel _ _ _ h1
   | _ => trivial
def Ty (P : Program) (W : World) (t : TypeId) (v : Value) : Prop := (∃ (r : Reach) (b : Nat), Value.okWide P W r b t v) ∧ ∃ fuel, jx P W fuel t v.cells.toList
theorem Aw {t : TypeId} {v : Value} {d : DataW H} {p : List MemPlace} {sp : Nat → Bool} {r : Reach} {b : Nat} (h : Value.okWide P W r b t v) (k : DataW.Trod enc P W 0 sp true t v d p) : Ty P W t v := by
 obtain ⟨fuel, hf⟩ := k
 exact ⟨⟨r, b, h⟩, fuel, oJ fuel t _ _ hf⟩
variable {t : TypeId} {v : Value}
theorem Ax {k : IntKind} {fuel : Nat} {cs : List Value} (hu : P.underlying t = some (.int k)) (h : jx P W fuel t cs) : ∃ n, cs = [.int k n] ∧ (Lit.int k n).wf = true := by
 cases fuel with
 | zero => exact h.elim
 | succ f => unfold jx at h; simpa only [hu] using h
theorem Ay {k : IntKind} (hu : P.underlying t = some (.int k)) (h : Ty P W t v) : ∃ n, v = .int k n ∧ (Lit.int k n).wf = true := by
 obtain ⟨⟨r, b, h1⟩, fuel, h2⟩ := h
 obtain ⟨n, rfl⟩ := okWide_int hu h1
 obtain ⟨m, hm, hw⟩ := Ax hu h2
 simp only [Value.cells, List.cons.injEq, Value.int.injEq, true_and, and_true] at hm
 subst hm; exact ⟨n, rfl, hw⟩
theorem uN {α : Type} {l : List α} {n : Nat} (h : n + 1 = l.length) : ∃ a l', l = a :: l' ∧ n = l'.length := by
 cases l with
 | nil => cases h
 | cons a l => exact ⟨a, l, rfl, by simpa using h⟩
theorem uO {α : Type} {l : List α} (h : 0 = l.length) : l = [] := List.length_eq_zero_iff.1 h.symm
theorem uP (hl : laidOutB P = true) {W' : World} (hb : Below W.heap.size W W') : ∀ (ts : List TypeId) (vs : List Value) (ds : List (DataW H)) (p : List MemPlace), (ts.all fun t => P.readableRec t && decide (t < P.types.size)) = true →
    DataW.TrodAll enc P W 0 (fun _ => true) true ts vs ds p → DataW.TrodAll enc P W' 0 (fun b => decide (b < W.heap.size)) true ts vs ds p
 | [], [], [], p, _, h => h
 | [], _ :: _, _, p, _, h => by cases h
 | [], [], _ :: _, p, _, h => by cases h
 | _ :: _, [], _, p, _, h => by cases h
 | _ :: _, _ :: _, [], p, _, h => by cases h
 | t :: ts, v :: vs, d :: ds, p, hr, h => by
  obtain ⟨q, q', h1, h2, rfl⟩ := h
  simp only [List.all_cons, Bool.and_eq_true, decide_eq_true_eq] at hr
  have lt : ∀ x ∈ q, x.block < W.heap.size := by obtain ⟨m, hm⟩ := h1; exact DataW.trod_lt m _ _ _ hm
  exact ⟨q, q', Below.trod hl hr.1.1 hr.1.2 h1 hb lt, uP hl hb ts vs ds q' hr.2 h2, rfl⟩
theorem uQ {sp : Nat → Bool} {r : Reach} {b : Nat} : ∀ (ts : List TypeId) (vs : List Value) (ds : List (DataW H)) (p : List MemPlace), (∀ (j : Nat) t v, ts[j]? = some t → vs[j]? = some v → Value.okWide P W r b t v) →
    DataW.TrodAll enc P W 0 sp true ts vs ds p → ts.length = vs.length ∧ ts.length = ds.length ∧ ∀ (j : Nat) t v, ts[j]? = some t → vs[j]? = some v → Ty P W t v
 | [], [], [], p, _, h => ⟨rfl, rfl, fun j t v h => by simp at h⟩
 | [], _ :: _, _, p, _, h => by cases h
 | [], [], _ :: _, p, _, h => by cases h
 | _ :: _, [], _, p, _, h => by cases h
 | _ :: _, _ :: _, [], p, _, h => by cases h
 | t :: ts, v :: vs, d :: ds, p, hok, h => by
  obtain ⟨q, q', h1, h2, rfl⟩ := h
  obtain ⟨k1, k2, k3⟩ := uQ ts vs ds q' (fun j t v ht hv => hok (j + 1) t v (by simpa using ht) (by simpa using hv)) h2
  refine ⟨by simp [k1], by simp [k2], fun j t' v' ht hv => ?_⟩
  cases j with
  | zero =>
   simp only [List.getElem?_cons_zero, Option.some.injEq] at ht hv
   subst ht; subst hv
   exact Aw (hok 0 t v rfl rfl) h1
  | succ j => exact k3 j t' v' (by simpa using ht) (by simpa using hv)
end
end
section
open Go.ChangeShapes Go.WideShapes Go.ChangeAt Go.RowKit
set_option linter.unusedSimpArgs false
set_option linter.unusedVariables false
variable {P : Program} {w W : World} {t : TypeId} {v : Value}
end
section
open Go.RowKit
structure Sec where
  at_ : Int
  d : ByteArray
instance : Inhabited Sec := ⟨⟨0, ByteArray.empty⟩⟩
structure Inp where
  at_ : Int
  g : Int
  k : Int
  code : Int
  d : ByteArray
instance : Inhabited Inp := ⟨⟨0, 0, 0, 0, ByteArray.empty⟩⟩
theorem Own.step {W0 w w' : World} {A C : List HP} (h : Own W0 w A) (k : Own w w' C) : Own W0 w' (C ++ A) := by
 obtain ⟨lA, sA, nA, mA⟩ := h.owns
 obtain ⟨lC, sC, nC, mC⟩ := k.owns
 have hlt : ∀ p ∈ lA, p.1 < w.heap.size := fun p hp => by
  have := (mA p hp).2
  rcases Nat.lt_or_ge p.1 w.heap.size with q | q
  exact q
  rw [Array.getElem?_eq_none q] at this; cases this
 refine ⟨k.os.trans h.os, k.tape.trans h.tape, k.output.trans h.output, Nat.le_trans h.size k.size, fun b hb => (k.base b (Nat.lt_of_lt_of_le hb h.size)).trans (h.base b hb), lC ++ lA, dX.append.2 ⟨lC, lA, rfl, sC, sA⟩, ?_, fun p hp => ?_⟩
 rw [List.map_append, List.nodup_append]
 refine ⟨nC, nA, fun x hx y hy e => ?_⟩
 obtain ⟨p, hp, rfl⟩ := List.mem_map.1 hx
 obtain ⟨q, hq, rfl⟩ := List.mem_map.1 hy
 have h1 := (mC p hp).1
 have h2 := hlt q hq
 omega
 rcases List.mem_append.1 hp with q | q
 exact ⟨Nat.le_trans h.size (mC p q).1, (mC p q).2⟩
 exact ⟨(mA p q).1, (k.base p.1 (hlt p q)).trans (mA p q).2⟩
theorem Az {W0 W : World} {A : List HP} {b off : Nat} {vs : List Value} (hO : Own W0 W A) (h : cB (bj W0 A) b off vs) : ∀ B, cB (bj W B) b off vs := fun B i v hi => y8 (h i v hi W hO)
theorem uR {α : Type} {W0 W : World} {A : List HP} {a : Option Addr} {sz : Nat} {f : α → List Value} {xs : List α} (hO : Own W0 W A) (h : bU (bj W0 A) a sz f xs) : ∀ B, bU (bj W B) a sz f xs := fun B i x hi => by
 obtain ⟨b, off, rfl, hc⟩ := h i x hi
 exact ⟨b, off, rfl, Az hO hc B⟩
abbrev eZ := Int × Value × Nat
def lx (p : eZ) : MapEntry := { key := .int .i64 p.1, val := p.2.1, born := p.2.2 }
def f0 (L : List eZ) : Array MapEntry := (L.map lx).toArray
def ei : List eZ → Int → Option Value
 | [], _ => none
 | p :: l, k => if p.1 = k then some p.2.1 else ei l k
def fA : List eZ → Int → Nat → Option (Nat × Value)
 | [], _, _ => none
 | p :: l, k, i => if p.1 = k then some (i, p.2.1) else fA l k (i + 1)
theorem uS (k : Int) : ∀ (L : List eZ) (i : Nat), Instr.findNow (.int .i64) (.int .i64 k) (L.map lx) i = some (fA L k i)
 | [], i => rfl
 | p :: l, i => by
  rw [List.map_cons, Instr.findNow, fA]
  simp only [lx, Instr.sameNow, if_true]
  by_cases h : p.1 = k
  subst h; simp
  have h' : (k == p.1) = false := by simpa using fun q => h q.symm
  rw [h', if_neg h]
  exact uS k l (i + 1)
theorem oK : ∀ {L : List eZ} {k : Int} {i : Nat}, fA L k i = none → ei L k = none ∧ k ∉ L.map (·.1)
 | [], k, i, _ => ⟨rfl, by simp⟩
 | p :: l, k, i, h => by
  rw [fA] at h
  by_cases q : p.1 = k
  rw [if_pos q] at h; cases h
  rw [if_neg q] at h
  obtain ⟨h1, h2⟩ := oK h
  refine ⟨by rw [ei, if_neg q]; exact h1, ?_⟩
  rw [List.map_cons, List.mem_cons]
  rintro (r | r)
  exact q r.symm
  exact h2 r
theorem mD : ∀ {L : List eZ} {k : Int} {i j : Nat} {v : Value}, fA L k i = some (j, v) → ei L k = some v ∧ ∃ m, j = i + m ∧ m < L.length ∧ (L[m]?).map (·.1) = some k
 | [], k, i, j, v, h => by cases h
 | p :: l, k, i, j, v, h => by
  rw [fA] at h
  by_cases q : p.1 = k
  rw [if_pos q] at h
  cases h
  exact ⟨by rw [ei, if_pos q], 0, rfl, by simp, by simp [q]⟩
  rw [if_neg q] at h
  obtain ⟨h1, m, h2, h3, h4⟩ := mD h
  exact ⟨by rw [ei, if_neg q]; exact h1, m + 1, by omega, by simpa using h3, by simpa using h4⟩
def kl (L : List eZ) (j : Nat) (k : Int) (v : Value) : List eZ := L.modify j fun e => (k, v, e.2.2)
theorem uT : ∀ {L : List eZ} {k : Int} {i m : Nat} {w v : Value}, fA L k i = some (i + m, w) → (kl L m k v).map (·.1) = L.map (·.1) ∧ ∀ k', ei (kl L m k v) k' = if k' = k then some v else ei L k'
 | [], k, i, m, w, v, h => by cases h
 | p :: l, k, i, m, w, v, h => by
  rw [fA] at h
  by_cases q : p.1 = k
  rw [if_pos q] at h
  have hm : m = 0 := by
   have := congrArg (fun o => (o.map (·.1)).getD 0) h
   simp at this; omega
  subst hm
  refine ⟨by simp [kl, q], fun k' => ?_⟩
  show ei ((k, v, p.2.2) :: l) k' = _
  rw [ei, ei]
  by_cases r : k' = k
  rw [if_pos r.symm, if_pos r]
  rw [if_neg (fun s => r s.symm), if_neg r, if_neg (fun s => r (s.symm.trans q))]
  rw [if_neg q] at h
  obtain ⟨_, m', h2, _, _⟩ := mD h
  obtain rfl : m = m' + 1 := by omega
  have h3 : fA l k (i + 1) = some (i + 1 + m', w) := by rw [h, h2]
  obtain ⟨e1, e2⟩ := uT (v := v) h3
  refine ⟨?_, fun k' => ?_⟩
  show p.1 :: (kl l m' k v).map (·.1) = p.1 :: l.map (·.1)
  rw [e1]
  show ei (p :: kl l m' k v) k' = _
  rw [ei, ei, e2]
  by_cases r : k' = k
  subst r; simp [q]
  simp [r]
theorem AA {L : List eZ} {k : Int} {v : Value} {c : Nat} : ∀ (h : k ∉ L.map (·.1)) (k' : Int), ei (L ++ [(k, v, c)]) k' = if k' = k then some v else ei L k' := by
 intro h k'
 induction L with
 | nil =>
  show (if k = k' then some v else none) = _
  by_cases r : k' = k
  rw [if_pos r.symm, if_pos r]
  rw [if_neg (fun s => r s.symm), if_neg r]; rfl
 | cons p l ih =>
  rw [List.map_cons, List.mem_cons, not_or] at h
  rw [List.cons_append, ei, ei, ih h.2]
  by_cases r : k' = k
  subst r
  have h1 : ¬ p.1 = k' := fun s => h.1 s.symm
  simp [h1]
  simp [r]
theorem AB (L : List eZ) (j : Nat) (k : Int) (v : Value) : (f0 L).modify j (fun e => { e with key := .int .i64 k, val := v }) = f0 (kl L j k v) := by
 apply Array.ext'
 rw [Array.toList_modify, f0, f0, kl, List.toList_toArray, List.toList_toArray]
 apply List.ext_getElem?
 intro i
 simp only [List.getElem?_modify, List.getElem?_map]
 cases L[i]? with
 | none => simp
 | some e => by_cases h : j = i <;> simp [h, lx]
theorem AC (L : List eZ) (k : Int) (v : Value) (c : Nat) : (f0 L).push { key := .int .i64 k, val := v, born := c } = f0 (L ++ [(k, v, c)]) := by
 apply Array.ext'
 simp [f0, lx]
def da (b : Nat) (f : Int → Option Value) : HP := chk (fun C => ∃ (L : List eZ) (clock : Nat), (L.map (·.1)).Nodup ∧ (∀ k, ei L k = f k) ∧ C = [pt b (.map (f0 L) clock)])
def km (f : Int → Option Value) (k : Int) (o : Option Value) : Int → Option Value := fun k' => if k' = k then o else f k'
section
variable {rd : Option Nat} {P : Program} {S : World → Prop} {W0 : World} {N : FSz} {e : bq} {A B R : List HP}
variable {op : Op} {ty t K E : TypeId} {v z : Value} {b : Nat} {x y u : Operand} {f : Int → Option Value} {k : Int}
theorem Own.mapL {w : World} (h : Own W0 w (da b f :: R)) : ∃ (L : List eZ) (clock : Nat), (L.map (·.1)).Nodup ∧ (∀ k, ei L k = f k) ∧ Own W0 w (pt b (.map (f0 L) clock) :: R) := by
 obtain ⟨C, ⟨L, c, h1, h2, rfl⟩, hO⟩ := h.chk
 exact ⟨L, c, h1, h2, hO⟩
theorem rh {L : List eZ} {c : Nat} (h1 : (L.map (·.1)).Nodup) (h2 : ∀ k, ei L k = f k) : Ent (pt b (.map (f0 L) c) :: R) (da b f :: R) := eX (R := R) (C := [_]) ⟨L, c, h1, h2, rfl⟩
theorem run_checkKey {w : World} {em : Bool} (hK : P.underlying K = some (.int .i64)) : (Instr.checkKey em 10000 K (.int .i64 k)).run P w = .ok () w := by
 exact MapKept.run_checkKey hK (by trivial) em 9999
theorem oL {w : World} (hK : P.underlying K = some (.int .i64)) (L : List eZ) : (Instr.findKey K (.int .i64 k) (f0 L).toList).run P w = .ok (fA L k 0) w := by
 simp only [Instr.findKey, Sem.run_bind, d8 hK, Result.andThen_ok, f0, List.toList_toArray, uS, Sem.run_pure]
theorem AD {d : Nat} {m : Option Nat} (hu : P.underlying t = some (.map K E)) : gn P (d + 1) t (.map m) (.map none) m.isNone := fun w => by
 cases m <;> simp [Op.equalIn, d8 hu]
theorem AE {t' : TypeId} {m : Option Nat} (hu : P.underlying t = some (.map K E)) (hx : ev e x = some (.map m)) (hy : ev e y = some (.map none)) : bO P S N e (.binOp .eql t x y t') (.bool m.isNone) :=
  ek hx hy (fun w x y => by simp [eqGuard]) (nF rfl (AD hu))
theorem AF [h : Tk da b A f R] (hu : P.underlying t = some (.map K E)) (hK : P.underlying K = some (.int .i64)) (hz : ∀ w, (zeroValue E).run P w = .ok z w) (hx : ev e x = some (.map (some b))) (hy : ev e y = some (.int .i64 k)) :
    bO P (bj W0 A) N e (.lookup t x y false) ((f k).getD z) := fun a w _ _ _ _ _ hF hO => by
 obtain ⟨L, c, h1, h2, hO1⟩ := Own.mapL (Own.tk (r := da) (b := b) hO)
 have hb := hO1.has.2
 have hg := h2 k
 have hrun : (Instr.lookup t (.map (some b)) (.int .i64 k) false).run P w = .ok ((f k).getD z) w := by
  simp only [Instr.lookup, Sem.run_bind, Sem.run_pure, d8 hu, Result.andThen_ok, MapKept.run_getObj_map hb, run_checkKey hK, oL hK]
  cases hm : fA L k 0 with
  | none =>
   rw [(oK hm).1] at hg
   rw [← hg]
   simp [hz]
  | some p =>
   obtain ⟨j, v⟩ := p
   rw [(mD hm).1] at hg
   rw [← hg]
   simp
 simp only [execOp, hF.eval hx, hF.eval hy, Sem.run_bind, hrun, Result.andThen_ok, Sem.run_pure]
theorem ly [h : Tk da b A f R] (hu : P.underlying t = some (.map K E)) (hK : P.underlying K = some (.int .i64)) (hz : ∀ w, (zeroValue E).run P w = .ok z w) (hx : ev e x = some (.map (some b))) (hy : ev e y = some (.int .i64 k)) (hv : (f k).getD z = v) :
    bO P (bj W0 A) N e (.lookup t x y false) v := hv ▸ AF hu hK hz hx hy
theorem mF : cQ P W0 N e A (.makeMap t none) (fun v B => ∃ b, v = .map (some b) ∧ B = da b (fun _ => none) :: A) := je fun a w _ _ _ _ _ hF hO => by
 refine ⟨_, w.alloc (.map #[] 0), _, .inl ?_, ⟨w.heap.size, rfl, rfl⟩, ?_⟩
 simp [execOp, Instr.makeMap, newObj, Sem.run]
 have hn := hO.new (.map (f0 []) 0)
 exact hn.ent (rh (L := []) (by simp) (fun _ => rfl))
theorem uU [h : Tk da b A f R] (hu : P.underlying t = some (.map K E)) (hK : P.underlying K = some (.int .i64)) (hx : ev e x = some (.map (some b))) (hy : ev e y = some (.int .i64 k)) (hv : ev e u = some v) :
    cQ P W0 N e A (.mapUpdate t x y u) (fun _ B => B = da b (km f k (some v)) :: R) := je fun a w _ _ _ _ _ hF hO => by
 obtain ⟨L, c, h1, h2, hO1⟩ := Own.mapL (Own.tk (r := da) (b := b) hO)
 have hb := hO1.has.2
 have hlt : b < w.heap.size := by
  rcases Nat.lt_or_ge b w.heap.size with q | q
  exact q
  rw [Array.getElem?_eq_none q] at hb; cases hb
 cases hm : fA L k 0 with
 | none =>
  obtain ⟨g1, g2⟩ := oK hm
  refine ⟨_, w.putObj b (.map ((f0 L).push { key := .int .i64 k, val := v, born := c }) (c + 1)), _, .inr ⟨?_, rfl⟩, rfl, ?_⟩
  simp only [execOp, hF.eval hx, hF.eval hy, hF.eval hv, Instr.mapUpdate, Sem.run_bind, Sem.run_pure, d8 hu, Result.andThen_ok, MapKept.run_getObj_map hb, MapKept.run_setObj_map _ hb, run_checkKey hK, oL hK, hm]
  simp [World.putObj, hlt]
  rw [AC]
  refine (hO1.turn _).ent (rh ?_ fun k' => ?_)
  rw [List.map_append]
  exact List.nodup_append.2 ⟨h1, by simp, fun a ha b hb => by
   simp at hb; subst hb
   intro q; subst q; exact g2 ha⟩
  rw [AA g2, h2]; rfl
 | some p =>
  obtain ⟨j, v0⟩ := p
  obtain ⟨g1, m, g2, g3, g5⟩ := mD hm
  obtain rfl : j = m := by omega
  have g4 : fA L k 0 = some (0 + j, v0) := by rw [Nat.zero_add]; exact hm
  obtain ⟨e1, e2⟩ := uT (v := v) g4
  have hkey : (((f0 L)[j]?).map (·.key)).getD (.int .i64 k) = .int .i64 k := by
   rw [f0, List.getElem?_toArray, List.getElem?_map]
   cases hq : L[j]? with
   | none => rw [hq] at g5; cases g5
   | some q => rw [hq] at g5; simp at g5; simp [lx, g5]
  refine ⟨_, w.putObj b (.map ((f0 L).modify j fun e => { e with key := .int .i64 k, val := v }) c), _, .inr ⟨?_, rfl⟩, rfl, ?_⟩
  simp only [execOp, hF.eval hx, hF.eval hy, hF.eval hv, Instr.mapUpdate, Sem.run_bind, Sem.run_pure, d8 hu, Result.andThen_ok, MapKept.run_getObj_map hb, MapKept.run_setObj_map _ hb, run_checkKey hK, oL hK, hm, hkey, Instr.keyThatStays]
  simp [World.putObj, hlt, Instr.sameBits, MapKept.run_setObj_map _ hb]
  rw [AB]
  exact (hO1.turn _).ent (rh (by rw [e1]; exact h1) fun k' => by rw [e2, h2]; rfl)
end
section
variable {P : Program} {S : World → Prop} {W0 : World} {N : FSz} {e : bq} {A R : List HP} {t t' ty : TypeId} {b off : Nat} {x y : Operand} {l l' : List Value}
theorem uV {E : TypeId} {k k' : IntKind} (ha : ∀ w, (isAgg E).run P w = .ok false w) (he : P.underlying E = some (.int k')) (D : Nat) (w : World) :
    ∀ (m s : Nat) (ms ns : List Int), ms.length = s + m → ns.length = s + m →
      (Op.eqItems (D + 1) E 1 (ms.map (Value.int k)).toArray (ns.map (Value.int k)).toArray (List.range' s m)).run P w = .ok (ms.drop s == ns.drop s) w
 | 0, s, ms, ns, h1, h2 => by
  rw [show ms.drop s = [] from List.drop_eq_nil_of_le (by omega), show ns.drop s = [] from List.drop_eq_nil_of_le (by omega)]
  simp [Op.eqItems]
 | m + 1, s, ms, ns, h1, h2 => by
  have e1 : (ms.map (Value.int k))[s]? = some (.int k ms[s]) := by simp [show s < ms.length by omega]
  have e2 : (ns.map (Value.int k))[s]? = some (.int k ns[s]) := by simp [show s < ns.length by omega]
  have d1 : ms.drop s = ms[s] :: ms.drop (s + 1) := List.drop_eq_getElem_cons (by omega)
  have d2 : ns.drop s = ns[s] :: ns.drop (s + 1) := List.drop_eq_getElem_cons (by omega)
  have ih := uV (k := k) ha he D w m (s + 1) ms ns (by omega) (by omega)
  rw [List.range'_succ, d1, d2]
  simp only [Op.eqItems, Nat.mul_one, Sem.run_bind, nH ha e1 w, nH ha e2 w, Result.andThen_ok, run_equalIn_int w D E k k' _ _ he]
  by_cases h : ms[s] = ns[s]
  have hb3 : ((ns[s] :: ms.drop (s + 1)) == (ns[s] :: ns.drop (s + 1))) = (ms.drop (s + 1) == ns.drop (s + 1)) := by
   rw [Bool.eq_iff_iff, beq_iff_eq, beq_iff_eq]
   exact ⟨fun q => (List.cons.inj q).2, fun q => by rw [q]⟩
  rw [h, hb3]
  simp only [beq_self_eq_true, Bool.not_true, Bool.false_eq_true, if_false]
  exact ih
  have hb : (ms[s] == ns[s]) = false := by simpa using h
  rw [hb]
  have hb2 : ((ms[s] :: ms.drop (s + 1)) == (ns[s] :: ns.drop (s + 1))) = false := by
   rw [← Bool.not_eq_true, beq_iff_eq]
   intro q
   exact h (List.cons.inj q).1
  rw [hb2]
  simp
theorem AG {E n z : Nat} {k k' : IntKind} {i : TypeInfo} {ms ns : List Int} {us vs : List Value} (hu : P.underlying t = some (.array n E)) (hi : P.info? E = some i) (hc : P.cellsOf E = 1) (he : P.underlying E = some (.int k')) (ha : ∀ w, (isAgg E).run P w = .ok false w)
    (h1 : us = ms.map (Value.int k)) (h2 : vs = ns.map (Value.int k)) (l1 : ms.length = n) (l2 : ns.length = n) : gn P (z + 2) t (.agg us.toArray) (.agg vs.toArray) (ms == ns) := fun d w => by
 subst h1; subst h2
 rw [show d + (z + 2) = (d + z + 1) + 1 by omega, run_equalIn_array w (d + z + 1) _ _ hu hi, hc, List.range_eq_range', uV ha he (d + z) w n 0 ms ns (by omega) (by omega)]
 simp
end
abbrev dT (ps pm d : Nat) : Obj := am [.pointer (some ⟨ps, 0, none⟩), .pointer (some ⟨pm, 0, none⟩), .int .u32 (d : Nat)] 368
theorem uW (pv ps pm d : Nat) : ax Tryz.prog W0 276 [.pointer (some ⟨pv, 0, none⟩)] (pt pv (dT ps pm d) :: R) (fun v B => v = .bool false ∧ B = pt pv (dT ps pm d) :: R) := by
 refine aB func276 ntmps276 rfl rfl ?_
 refine aa (ae (a7 rfl (ag rfl) (ac (a8 (aa (ae (a7 rfl (ab rfl) (a7 rfl (dx xl rfl rfl) (a7 rfl (ab rfl) ?_)))))))))
 refine bJ rfl rfl rfl ?_ ?_
 intro g1_3
 cases g1_3
 intro g1_3
 refine a7 rfl (ab rfl) (av rfl rfl (a7 rfl (aI rfl) (av rfl rfl ?_)))
 refine a7 rfl (ar rfl pM rfl iu rfl (by first | exact Nat.zero_add _ | rfl)) ?_
 refine av rfl rfl (a7 rfl (ap lT rfl (az rfl)) ?_)
 refine av rfl rfl (a7 rfl (dx wQ rfl rfl) (a7 rfl (aX rfl rfl) (a7 rfl (ag rfl) (ac (a8 (ao (ak (.inl rfl) (.cons (aj rfl) .nil) ?_)))))))
 exact ⟨_, ⟨rfl, rfl⟩, inferInstance⟩
theorem AH (W0 : World) (R : List HP) (ps pm : Nat) (fr : List aZ) (pg : List Pl) (h : Pgs pg) (h0 : 0 < fr.length) :
    ax Tryz.prog W0 90 [.pointer (some ⟨ps, 0, none⟩), .pointer (some ⟨pm, 0, none⟩)] (bP ps fr :: pt pm (cK pg) :: R)
      (fun v B => ∃ b, v = .tuple #[.pointer (some ⟨b, 0, none⟩), .int .i64 0] ∧ B = pt b (dT ps pm 0) :: bP ps fr :: pt pm (cK pg) :: R) := by
 refine aB func90 ntmps90 rfl rfl ?_
 refine aa (ae (a7 rfl (ag rfl) (a7 rfl (ag rfl) (ac (a8 (aa (aa (ae (a7 rfl (ab rfl) (ah rfl (aF kE rfl (jo W0 _ ps fr)) ?_))))))))))
 rintro _ B_ ⟨rfl, hB_⟩
 obtain rfl := hB_.symm
 refine a7 rfl (cu rfl rfl) (a7 rfl (ab rfl) ?_)
 refine bJ rfl rfl rfl ?_ ?_
 intro g1_4
 omega
 intro g1_4
 refine a7 rfl (ab rfl) (av rfl rfl (ah rfl (aF call207 rfl (yR pm pg h)) ?_))
 rintro _ B_ ⟨rfl, hB_⟩
 obtain rfl := hB_.symm
 refine av rfl rfl (a7 rfl (cu rfl rfl) (a7 rfl (aX rfl rfl) (ac (a8 ?_))))
 refine au rfl ?_ ?_
 intro c1
 exact absurd c1 (by decide)
 intro c1
 refine aA (a8 (aa (ae (a7 rfl (ab rfl) (a7 rfl (ab rfl) (a7 rfl (cq pM zeroValue368 (aK iu (aK xm (aK jT cp))) (bB rfl iu rfl rfl (Nat.le_of_ble_eq_true rfl) SetL.eq (bB rfl xm rfl rfl (Nat.le_of_ble_eq_true rfl) SetL.eq co))) ?_))))))
 refine ah rfl (bL rfl) ?_
 rintro _ _ ⟨b1, rfl, rfl⟩
 refine a7 rfl (ag rfl) (a7 rfl (ag rfl) (ac (a8 (ao (ak (.inl rfl) (.cons (aj rfl) (.cons (aj rfl) .nil)) ?_)))))
 exact ⟨_, ⟨b1, rfl, rfl⟩, inferInstance⟩
theorem oM (pv ps pm d : Nat) : ax Tryz.prog W0 143 [.pointer (some ⟨pv, 0, none⟩)] (pt pv (dT ps pm d) :: R) (fun v B => v = .pointer (some ⟨pm, 0, none⟩) ∧ B = pt pv (dT ps pm d) :: R) := by
 refine aB func143 ntmps143 rfl rfl ?_
 refine aa (ae (a7 rfl (ag rfl) (ac (a8 (aa (aa (ae (a7 rfl (ab rfl) (ah rfl (aF call276 rfl (uW pv ps pm d)) ?_)))))))))
 rintro _ B_ ⟨rfl, hB_⟩
 obtain rfl := hB_.symm
 refine ac (a8 ?_)
 refine au rfl ?_ ?_
 intro c1
 exact absurd c1 (by decide)
 intro c1
 refine aA (a8 (aa (ae (a7 rfl (ab rfl) (a7 rfl (aI rfl) ?_)))))
 refine a7 rfl (ar rfl pM rfl xm rfl (by first | exact Nat.zero_add _ | rfl)) ?_
 refine a7 rfl (ap xn rfl (az rfl)) ?_
 refine a7 rfl (ag rfl) (ac (a8 (ao (ak (.inl rfl) (.cons (aj rfl) .nil) ?_))))
 exact ⟨_, ⟨rfl, rfl⟩, inferInstance⟩
def ko (len : Nat) (pg : List Pl) (n : Int) : Bool := cr pg n && decide (n < 8) && decide ((du pg n).1 < len)
def jy (a : Nat) : Int := ((a / 64 : Nat) : Int)
def lz (len : Nat) (pg : List Pl) (pa n : Nat) : Prop := ∀ i, i < n → ko len pg (jy (pa + i)) = true
instance {len : Nat} {pg : List Pl} {pa n : Nat} : Decidable (lz len pg pa n) := by unfold lz; exact Nat.decidableBallLT n _
def io (len : Nat) (pg : List Pl) (pa : Nat) (n : Int) : Bool := decide (0 ≤ n ∧ pa ≤ 512 ∧ n ≤ 512 - (pa : Int)) && decide (lz len pg pa n.toNat)
theorem AI {len : Nat} {pg : List Pl} {pa : Nat} {n : Int} : io len pg pa n = true ↔ (0 ≤ n ∧ pa ≤ 512 ∧ n ≤ 512 - (pa : Int)) ∧ lz len pg pa n.toNat := by simp [io]
theorem AJ {len : Nat} {pg : List Pl} {pa n : Nat} : io len pg pa n = true ↔ pa + n ≤ 512 ∧ lz len pg pa n := by
 rw [AI]; simp only [Int.toNat_natCast]
 constructor
 rintro ⟨h1, h2⟩; exact ⟨by omega, h2⟩
 rintro ⟨h1, h2⟩; exact ⟨by omega, h2⟩
def uX (pg : List Pl) (a : Nat) : Int := (du pg (jy a)).1
def uY (fr : List aZ) (pg : List Pl) (a : Nat) : Nat := qy fr (uX pg a) ((a % 64 : Nat) : Int) 1
def mG (fr : List aZ) (pg : List Pl) (pa n : Nat) : List Nat := (List.range n).map fun i => uY fr pg (pa + i)
def eR (d n : Nat) : List Nat := (List.range n).filter fun i => Nat.testBit d i
def mH (n : Nat) : Value := .int .i64 (n : Int)
def lB (l : List Nat) : List Value := l.map mH
theorem uZ (d n : Nat) : eR d (n + 1) = eR d n ++ (if Nat.testBit d n then [n] else []) := by
 simp only [eR, List.range_succ, List.filter_append]
 congr 1
 by_cases h : Nat.testBit d n = true <;> simp [h]
theorem v1 (d n : Nat) : (eR d n).length ≤ n := by
 have := List.length_filter_le (fun i => Nat.testBit d i) (List.range n)
 simpa [eR] using this
theorem AK (W0 : World) (R : List HP) (pv ps pm d : Nat) (hd : d < 4096) :
    ax Tryz.prog W0 245 [.pointer (some ⟨pv, 0, none⟩)] (pt pv (dT ps pm d) :: R)
      (fun v B => ∃ a c, v = .slice a (eR d 12).length c ∧ B = osl 3 1 (.slice a (eR d 12).length c) (lB (eR d 12)) :: pt pv (dT ps pm 0) :: R) := by
 refine aB func245 ntmps245 rfl rfl ?_
 refine aa (ae (a7 rfl (ag rfl) (ac (a8 (aa (aa (ae (a7 rfl (ab rfl) (ah rfl (aF call276 rfl (uW pv ps pm d)) ?_)))))))))
 rintro _ B_ ⟨rfl, hB_⟩
 obtain rfl := hB_.symm
 refine ac (a8 ?_)
 refine au rfl ?_ ?_
 intro c1
 exact absurd c1 (by decide)
 intro c1
 refine aA (a8 (aa (ae (a7 rfl (ag rfl) (ac (a8 (aa (aa (ae (a7 rfl (ab rfl) (ac (a8 (aP ?_)))))))))))))
 refine bX (fun x : Nat × Option Addr × Nat => x.1 ≤ 12) (fun x => [(0, .pointer (some ⟨pv, 0, none⟩)), (3, .slice x.2.1 (eR d x.1).length x.2.2), (7, .int .i64 x.1)]) (fun x => osl 3 1 (.slice x.2.1 (eR d x.1).length x.2.2) (lB (eR d x.1)) :: pt pv (dT ps pm d) :: R) (fun x => 12 - x.1) (0, none, 0) ?_ ?_ ?_ ?_
 simp
 · repeat (first | exact aQ | refine aO rfl ?_)
 exact dZ
 intro ⟨i, a, c⟩ hi
 dsimp only at hi ⊢
 have hl := v1 d i
 refine aa (ae (a7 rfl (aV rfl rfl) (ac (a8 (aa ?_)))))
 refine au rfl ?_ ?_
 intro c5
 refine aA (a8 (aa (aP (aa (ae (a7 rfl (ab rfl) (a7 rfl (ag rfl) (ac (a8 (aa (ae (a7 rfl (ab rfl) (a7 rfl (aI rfl) ?_)))))))))))))
 refine a7 rfl (ar rfl pM rfl jT rfl (by first | exact Nat.zero_add _ | rfl)) ?_
 refine a7 rfl (ap isAgg42 rfl (az rfl)) ?_
 refine a7 rfl (ab rfl) ?_
 refine a7 rfl (nE rfl rfl (by omega) (qi (by simp [IntKind.bits]; omega))) ?_
 refine a7 rfl (t9 rfl rfl (yg (b := 1) (Nat.lt_of_le_of_lt (Nat.div_le_self _ _) (by omega)) (by omega))) ?_
 refine a7 rfl (cu rfl rfl) (ac (a8 ?_))
 refine au rfl ?_ ?_
 intro c7
 have hb : Nat.testBit d i = true := by
  rw [Nat.testBit_eq_decide_div_mod_eq]; rw [Nat.and_one_is_mod] at c7; simp; omega
 have hs : eR d (i + 1) = eR d i ++ [i] := by rw [uZ, if_pos hb]
 refine ae (a7 rfl (ab rfl) (a7 rfl (ab rfl) ?_))
 refine ah rfl (jg dd aC f9 rfl rfl rfl rfl rfl (by decide) (by decide)) ?_
 rintro _ _ ⟨b1, rfl, rfl⟩
 refine ah rfl (eg (sz := 1) (by_ := 8) (info := Tryz.t3) dd (by kernel_rfl) rfl rfl rfl rfl (by decide) rfl rfl dK rfl rfl (by simp only [maxLen]; omega) (by omega)) ?_
 rintro _ _ ⟨a1, c1, rfl, rfl⟩
 refine a7 rfl (ag rfl) (ac (bw (a8 (ae ?_))))
 refine a7 rfl (bz rfl rfl (by first | exact aT (by omega) | rfl)) ?_
 refine a7 rfl (ab rfl) (ac (a8 ?_))
 refine cg (i + 1, a1, c1) ?_ ?_ ?_ ?_
 omega
 omega
 · simp only [hs, List.length_append, List.length_cons, List.length_nil]; repeat (first | exact aQ | refine aO rfl ?_)
 simp only [hs, lB, List.map_append, List.map_cons, List.map_nil, mH, List.length_append, List.length_cons, List.length_nil]; exact inferInstance
 intro c7
 have hb : ¬ Nat.testBit d i = true := by
  rw [Nat.testBit_eq_decide_div_mod_eq]; rw [Nat.and_one_is_mod] at c7; simp; omega
 have hs : eR d (i + 1) = eR d i := by rw [uZ, if_neg hb, List.append_nil]
 obtain ⟨a1, rfl⟩ : ∃ x, x = a := ⟨a, rfl⟩
 obtain ⟨c1, rfl⟩ : ∃ x, x = c := ⟨c, rfl⟩
 refine aA (bw (a8 (ae ?_)))
 refine a7 rfl (bz rfl rfl (by first | exact aT (by omega) | rfl)) ?_
 refine a7 rfl (ab rfl) (ac (a8 ?_))
 refine cg (i + 1, a1, c1) ?_ ?_ ?_ ?_
 omega
 omega
 · simp only [hs, List.length_append, List.length_cons, List.length_nil]; repeat (first | exact aQ | refine aO rfl ?_)
 simp only [hs, lB, List.map_append, List.map_cons, List.map_nil, mH, List.length_append, List.length_cons, List.length_nil]; exact inferInstance
 intro c5
 refine bF (aR (aR (bH (a8 (aa (ae (a7 rfl (ab rfl) (a7 rfl (aI rfl) ?_))))))))
 refine a7 rfl (ar rfl pM rfl jT rfl (by first | exact Nat.zero_add _ | rfl)) ?_
 refine bc (ck jT rfl rfl rfl (Nat.le_of_ble_eq_true rfl) SetL.eq) ?_
 rintro _ _ rfl
 refine ac (a8 (aa (ae (a7 rfl (ab rfl) (a7 rfl (ag rfl) (ac (a8 (ao (ak (.inl rfl) (.cons (aj rfl) .nil) ?_)))))))))
 have e1 : i = 12 := by omega
 subst e1
 exact ⟨_, ⟨a, c, rfl, rfl⟩, inferInstance⟩
def v2 (d : Dsc) : Bool := decide (d.flags / 2 % 2 = 1)
def v3 (d : Dsc) : Bool := decide (d.flags % 2 = 1)
def ri (r : Rg3) (at_ : Nat) : Nat := (r.desc + 16 * at_) % 4294967296
def lD (fr : List aZ) (pg : List Pl) (r : Rg3) (at_ : Nat) : Dsc := if io fr.length pg (ri r at_) 16 then zU (mG fr pg (ri r at_) 16) else zD
def lk (fr : List aZ) (pg : List Pl) (r : Rg3) (at_ : Int) (n : Nat) (wr : Bool) : Dsc × Int :=
  if at_ < 0 ∨ r.n ≤ at_ then (zD, 1) else if r.n ≤ (n : Int) then (zD, 2) else
  if io fr.length pg (ri r at_.toNat) 16 = false then (zD, 5) else
  if uk (lD fr pg r at_.toNat) r.n.toNat ≠ 0 then (zD, uk (lD fr pg r at_.toNat) r.n.toNat) else
  if io fr.length pg (lD fr pg r at_.toNat).addr (lD fr pg r at_.toNat).len = false then (zD, 5) else
  if wr = true ∧ v2 (lD fr pg r at_.toNat) = false then (zD, 6) else (lD fr pg r at_.toNat, 0)
theorem AL {fr : List aZ} {pg : List Pl} {r : Rg3} {at_ : Int} {n : Nat} {wr : Bool} (h : (lk fr pg r at_ n wr).2 = 0) : (n : Int) < r.n := by
 unfold lk at h
 repeat' split at h
 all_goals first | (exfalso; revert h; decide) | omega | skip
 all_goals (exfalso; rename_i q; exact q h)
abbrev v4 := Int × Bool × List Dsc
def v5 (fr : List aZ) (pg : List Pl) (r : Rg3) (n : Nat) (x : v4) : Dsc × Int := lk fr pg r x.1 n x.2.1
def rj (fr : List aZ) (pg : List Pl) (r : Rg3) (head : Int) : Nat → v4
 | 0 => (head, false, [])
 | n + 1 => let d := (v5 fr pg r n (rj fr pg r head n)).1; ((d.next : Int), v2 d, (rj fr pg r head n).2.2 ++ [d])
abbrev oN (fr : List aZ) (pg : List Pl) (r : Rg3) (head : Int) (n : Nat) : Dsc × Int := v5 fr pg r n (rj fr pg r head n)
def mI (fr : List aZ) (pg : List Pl) (r : Rg3) (head : Int) (n : Nat) : Prop := ∀ m, m < n → (oN fr pg r head m).2 = 0 ∧ v3 (oN fr pg r head m).1 = true
theorem mI.succ {fr : List aZ} {pg : List Pl} {r : Rg3} {head : Int} {n : Nat} (h : mI fr pg r head n) (h1 : (oN fr pg r head n).2 = 0) (h2 : v3 (oN fr pg r head n).1 = true) : mI fr pg r head (n + 1) := fun m hm => by
 rcases Nat.lt_or_ge m n with q | q
 exact h m q
 rw [show m = n by omega]; exact ⟨h1, h2⟩
theorem mI.le {fr : List aZ} {pg : List Pl} {r : Rg3} {head : Int} {n : Nat} (h : mI fr pg r head n) (h8 : 0 ≤ r.n ∧ r.n ≤ 8) : n ≤ 8 := by
 rcases Nat.eq_zero_or_pos n with q | q
 omega
 have := AL (h (n - 1) (by omega)).1; omega
section
variable {W0 : World} {N : FSz} {K : Act → World → Prop} {e : bq} {A R R1 R2 : List HP} {b n c : Nat} {l : List Dsc} {a : Option Addr} {ys : List Value}
end
section
variable {P : Program} {W0 : World} {N : FSz} {K : Act → World → Prop} {e : bq} {A B R R1 R2 : List HP} {qs g n : Nat} {fr : List aZ} {f : FuncId} {args : List Value} {Post : Value → List HP → Prop} {l : List Value}
end
theorem AM {len : Nat} {pg : List Pl} {n : Int} : ko len pg n = true ↔ cr pg n = true ∧ n < 8 ∧ (du pg n).1 < len := by
 unfold ko; rw [Bool.and_eq_true, Bool.and_eq_true]
 exact ⟨fun h => ⟨h.1.1, of_decide_eq_true h.1.2, of_decide_eq_true h.2⟩, fun h => ⟨⟨h.1, decide_eq_true h.2.1⟩, decide_eq_true h.2.2⟩⟩
def jz (w : Nat) : Int := if w % 2 = 0 then 4 else if w = w % 32 + 256 * (w / 256 % 32) then 0 else 5
def AN (w : Nat) : Bool := decide (jz w = 0)
def gR (w : Nat) : Nat := if jz w = 0 then w / 2 % 16 else 0
def gP (w : Nat) : Nat := if jz w = 0 then w / 256 % 32 else 0
def AO (w : Nat) : Int := if jz w = 0 ∧ gR w = 0 then gP w else 0
def rk (w : Nat) : Int := if jz w = 0 then (if gR w = 0 then 0 else 5) else jz w
def oO (w : Nat) : Bool := decide (jz w = 0 ∧ gR w % 8 = 0)
def v6 (w : Nat) : Bool := if oO w then false else AN w
def v7 (w : Nat) : Nat := if oO w then 0 else gR w
def v8 (w : Nat) : Nat := if oO w then 0 else gP w
def rn (w : Nat) : Int := if oO w then 5 else jz w
def v9 (k : Int) : Int := if k = 0 then 4 else if k = 1 then 1 else if k = 2 then 2 else 0
def AP (k : Int) : Bool := decide (k = 0 ∨ k = 1 ∨ k = 2)
def kt (r : Int) (c : Int) : Bool := m5 .i64 r c == c
def gB (page : Int) (i : Nat) : Nat := 64 * page.toNat + 4 * (i % 16)
def et (len : Nat) (pg : List Pl) (page : Int) (i : Nat) : Bool := decide (0 ≤ page ∧ page < 8) && io len pg (gB page i) 4
theorem AQ {len : Nat} {pg : List Pl} {page : Int} {i : Nat} : et len pg page i = true ↔ (0 ≤ page ∧ page < 8) ∧ io len pg (gB page i) 4 = true := by
 rw [et, Bool.and_eq_true]; exact ⟨fun h => ⟨of_decide_eq_true h.1, h.2⟩, fun h => ⟨decide_eq_true h.1, h.2⟩⟩
def f2 (fr : List aZ) (pg : List Pl) (page : Int) (i : Nat) : Nat := if et fr.length pg page i then nZ (mG fr pg (gB page i) 4) else 0
structure QS where
  r : Rg3
  on : Bool
  br : Int
  last : Nat
  put : Nat
@[reducible] def gY : QS := ⟨⟨0, 0, 0, 0⟩, false, 0, 0, 0⟩
abbrev qO (m : Bool) (s : QS) : Obj := am [.int .u32 s.r.desc, .int .u32 s.r.avail, .int .u32 s.r.used, .int .i64 s.r.n, .bool s.on, .int .i64 s.br, .int .i64 s.last, .int .i64 s.put, .bool m] 470
theorem AR : ax Tryz.prog W0 213 [] R (fun v B => ∃ b, v = .pointer (some ⟨b, 0, none⟩) ∧ B = pt b (qO true gY) :: R) := by
 refine aB func213 ntmps213 rfl rfl ?_
 refine aa (ae (a7 rfl (ag rfl) (ac (a8 (aa (ae (a7 rfl (cq underlying470 zeroValue470 (aK sizeOf227 (aK cy cp)) (bB rfl cy rfl rfl (Nat.le_of_ble_eq_true rfl) SetL.eq co)) ?_)))))))
 refine ah rfl (bL rfl) ?_
 rintro _ _ ⟨b1, rfl, rfl⟩
 refine a7 rfl (ag rfl) (ac (a8 (ao (ak (.inl rfl) (.cons (aj rfl) .nil) ?_))))
 exact ⟨_, ⟨_, rfl, rfl⟩, inferInstance⟩
section
variable {P : Program} {S : World → Prop} {W0 : World} {N : FSz} {e : bq} {A R : List HP} {t t' : TypeId} {x : Operand} {v : Value} {b : Nat} {vs : List Value}
end
end
end Go.Proofs.YtofillmoflhijaaGreat
