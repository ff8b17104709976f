/-
  Part 4 of the proof of AuditZero: rules, and walks of functions. Conditions: none.
-/
import Derived.Test.YtofillmoflhijaaGreatAuditZeroC
namespace Go.Proofs.YtofillmoflhijaaGreat
open Go.Proofs.Tryz
set_option linter.unusedSimpArgs false
set_option linter.unusedVariables false
set_option maxRecDepth 20000
set_option linter.defProp false
set_option synthInstance.maxSize 8192
set_option synthInstance.maxHeartbeats 2000000
variable {W0 : World} {R : List HP}
section
open Go.RowKit
theorem CL (W0 : World) (R : List HP) (a : Option Addr) (n c : Nat) :
    ax Tryz.prog W0 353 [.slice a n c] R (fun v B => ∃ bs, v = .func (.func 386) #[] #[.pointer (some ⟨bs, 0, none⟩)] ∧ B = pt bs (am [.slice a n c] 515) :: R) := by
 refine aB func353 ntmps353 rfl rfl ?_
 refine aa (ae (ah rfl (eW rfl rfl) ?_))
 rintro _ _ ⟨b1, rfl, rfl⟩
 refine a7 rfl (ag rfl) (ac (a8 (aa (ae (a7 rfl (dz rfl rfl) ?_)))))
 refine a7 rfl (ag rfl) (ac (a8 (ao (ak (.inl rfl) (.cons (aj rfl) .nil) ?_))))
 exact ⟨_, ⟨b1, rfl, rfl⟩, inferInstance⟩
theorem CM (W0 : World) (bs L c : Nat) (a : Option Addr) (its : List It) (hN : its.length < 1000) (C : Nat → List HP)
    (hr : ∀ i R, i < its.length → jn Tryz.prog W0 L [.agg (bD (its.getD i default)).toArray] (C i ++ R) (fun v B => v = .bool true ∧ B = C (i + 1) ++ R)) :
    ax Tryz.prog W0 386 [.func (.yield L) #[] #[], .pointer (some ⟨bs, 0, none⟩)] (pt bs (am [.slice a its.length c] 515) :: osl 518 6 (.slice a its.length c) (its.flatMap bD) :: C 0)
      (fun v B => v = .tuple #[] ∧ B = pt bs (am [.slice a its.length c] 515) :: osl 518 6 (.slice a its.length c) (its.flatMap bD) :: C its.length) := by
 refine aB func386 ntmps386 rfl rfl ?_
 refine aa (ae (a7 rfl (ap fu rfl (az rfl)) ?_))
 refine a7 rfl (aY cM rfl) (a7 rfl (ab rfl) (ac (a8 (aP ?_))))
 refine bX (fun i : Nat => i ≤ its.length) (fun i => [(0, .func (.yield L) #[] #[]), (5, .slice a its.length c), (6, .int .i64 (its.length : Nat)), (7, .int .i64 i)]) (fun i => pt bs (am [.slice a its.length c] 515) :: osl 518 6 (.slice a its.length c) (its.flatMap bD) :: C i) (fun i => its.length - i) 0 ?_ ?_ ?_ ?_
 exact Nat.zero_le _
 · repeat (first | exact aQ | refine aO rfl ?_)
 exact inferInstance
 intro i hi
 refine aa (ae (a7 rfl (aV rfl rfl) (ac (a8 (aa ?_)))))
 refine au rfl ?_ ?_
 intro c1
 have hi1 : i < its.length := by omega
 refine kb (E := 518) (sz := 6) (a := a) (n := its.length) (c := c) bD its g6 (by decide) rfl (fun hs => ?_)
 obtain ⟨g, o, rfl, hc⟩ := hs.at_ hi1
 have hgi : its.getD i default = its[i] := by simp [List.getD, hi1]
 refine aA (a8 (aa (aP (aa (ae ?_)))))
 refine a7 rfl (bK cM bG rfl rfl rfl hi1 (by first | exact Nat.zero_add _ | rfl)) ?_
 refine a7 rfl (bN ed bG rfl hc rfl) ?_
 refine ah rfl (cH kK) ?_
 rintro _ _ ⟨bx, rfl, rfl⟩
 refine bc (cD bG rfl rfl rfl rfl rfl) ?_
 rintro _ _ rfl
 refine ac (a8 (aa (ae (a7 rfl (ab rfl) (a7 rfl (cC ed bG rfl rfl) ?_)))))
 refine tx rfl rfl rfl (u1 (List.perm_append_comm (l₁ := [_, _, _])) (hgi ▸ hr i [_, _, _] hi1)) ?_
 rintro _ B_ ⟨rfl, hB_⟩
 obtain rfl := hB_.symm
 refine m0 List.perm_append_comm ?_
 simp only [List.cons_append, List.nil_append]
 refine a7 rfl (bM rfl) (ac (a8 ?_))
 refine au rfl ?_ ?_
 intro c3
 exact absurd rfl c3
 intro c3
 refine aA (bw (a8 (ae ?_)))
 refine a7 rfl (bz rfl rfl (by first | exact aT (by omega) | rfl)) ?_
 refine a7 rfl (ab rfl) (ac (a8 ?_))
 refine cg (i + 1) ?_ ?_ ?_ ?_
 omega
 omega
 · repeat (first | exact aQ | refine aO rfl ?_)
 exact inferInstance
 intro c1
 refine bF (aR (aR (bH (ak (.inr rfl) .nil ?_))))
 obtain rfl : i = its.length := by omega
 exact ⟨_, ⟨rfl, rfl⟩, inferInstance⟩
theorem CN {W0 : World} {A : List HP} {e : bq} {n' L D bs c : Nat} {a : Option Addr} {ps : Array Tmp} {asg body : Code} {Go Stop : List HP → Prop} (its : List It) (hN : its.length < 1000) (C : Nat → List HP)
    (hp : A.Perm (pt bs (am [.slice a its.length c] 515) :: osl 518 6 (.slice a its.length c) (its.flatMap bD) :: C 0))
    (hgo : Go (pt bs (am [.slice a its.length c] 515) :: osl 518 6 (.slice a its.length c) (its.flatMap bD) :: C its.length))
    (hr : ∀ i R, i < its.length → jn Tryz.prog W0 L [.agg (bD (its.getD i default)).toArray] (cJ L ⟨e, n', ps, asg, body, .ready, none, D⟩ :: pt D (.deferred (some [])) :: (C i ++ R))
      (fun v B => v = .bool true ∧ B = cJ L ⟨e, n', ps, asg, body, .ready, none, D⟩ :: pt D (.deferred (some [])) :: (C (i + 1) ++ R))) :
    ax Tryz.prog W0 386 (.func (.yield L) #[] #[] :: [.pointer (some ⟨bs, 0, none⟩)]) (cJ L ⟨e, n', ps, asg, body, .ready, none, D⟩ :: pt D (.deferred (some [])) :: A)
      (fun _ B => (∃ C, B = cJ L ⟨e, n', ps, asg, body, .ready, none, D⟩ :: pt D (.deferred (some [])) :: C ∧ Go C) ∨ (∃ C, B = cJ L ⟨e, n', ps, asg, body, .done, some .ret, D⟩ :: pt D (.deferred (some [])) :: C ∧ Stop C)) := by
 have sw : ∀ (x y p q : HP) (Z : List HP), (x :: y :: p :: q :: Z).Perm (p :: q :: x :: y :: Z) := fun x y p q Z =>
  (((List.Perm.swap _ _ _).trans ((List.Perm.swap _ _ _).cons _)).cons _).trans ((List.Perm.swap _ _ _).trans ((List.Perm.swap _ _ _).cons _))
 refine k7 (((hp.cons _).cons _).trans (sw _ _ _ _ _)) (nU (CM W0 bs L c a its hN (fun i => cJ L ⟨e, n', ps, asg, body, .ready, none, D⟩ :: pt D (.deferred (some [])) :: C i) (fun i R hi => hr i R hi)) ?_)
 rintro v B ⟨_, rfl⟩
 exact ⟨_, .inl ⟨_, rfl, hgo⟩, Ent.ofPerm (sw _ _ _ _ _)⟩
def kx (b : Nat) (l : List It) : HP := chk (fun C => ∃ a c, C = [pt b (am [.slice a l.length c] 515), osl 518 6 (.slice a l.length c) (l.flatMap bD)])
section
variable {W0 : World} {N : FSz} {K : Act → World → Prop} {e : bq} {A R R1 R2 : List HP} {b n c : Nat} {l : List It} {a : Option Addr} {ys : List Value}
theorem wi [hk : Tk kx b A l R] (h : ∀ a c, aG W0 N K e (pt b (am [.slice a l.length c] 515) :: osl 518 6 (.slice a l.length c) (l.flatMap bD) :: R)) : aG W0 N K e A :=
  eC (r := kx) (b := b) (jm fun C hC => by obtain ⟨a, c, rfl⟩ := hC; exact h a c)
theorem CO (l : List It) [h1 : Tk pt b A (am [.slice a n c] 515) R1] [h2 : Tk (osl 518 6) (.slice a n c) R1 ys R] (hn : n = l.length) (hy : ys = l.flatMap bD) (k : aG W0 N K e (kx b l :: R)) : aG W0 N K e A := by
 subst hn; subst hy
 exact gm ((Ent.ofPerm (h1.perm.trans (h2.perm.cons _))).trans (eX (R := R) (C := [_, _]) ⟨a, c, rfl⟩)) k
theorem CP [h1 : Tk pt b A (am [.slice none 0 0] 515) R] (k : aG W0 N K e (kx b [] :: R)) : aG W0 N K e A :=
  gm ((Ent.ofPerm h1.perm).trans ((Ent.cons (dZ (E := 518) (sz := 6) (B := R))).trans (eX (R := R) (C := [pt b (am [.slice none 0 0] 515), osl 518 6 (.slice none 0 0) []]) ⟨none, 0, rfl⟩))) k
end
theorem CQ (W0 : World) (R : List HP) (bs c : Nat) (a : Option Addr) (its : List It) (hN : its.length < 900) :
    ax Tryz.prog W0 409 [.slice none 0 0, .func (.func 386) #[] #[.pointer (some ⟨bs, 0, none⟩)]]
      (pt bs (am [.slice a its.length c] 515) :: osl 518 6 (.slice a its.length c) (its.flatMap bD) :: R)
      (fun v B => ∃ a' c', v = .slice a' its.length c' ∧ B = osl 518 6 (.slice a' its.length c') (its.flatMap bD) :: osl 518 6 (.slice a its.length c) (its.flatMap bD) :: R) := by
 refine aB func409 ntmps409 rfl rfl ?_
 refine aa (ae (ah rfl (eW rfl rfl) ?_))
 rintro _ _ ⟨b1, rfl, rfl⟩
 refine a7 rfl (ag rfl) (ac (a8 (aa (aa (CP (b := b1) ?_)))))
 refine ae (a7 rfl (ab rfl) (ac (a8 (aP ?_))))
 refine tB (fun C => C = pt bs (am [.slice a its.length c] 515) :: osl 518 6 (.slice a its.length c) (its.flatMap bD) :: kx b1 its :: R) (fun C => False) rfl call386 ?_ ?_ ?_
 intro L D
 refine CN its (by omega) (fun i => kx b1 (its.take i) :: R) (by rw [List.take_zero]; exact od (r1 := pt) (b1 := bs) (r2 := osl 518 6) (b2 := .slice a its.length c) (r3 := kx) (b3 := b1)) (by rw [List.take_of_length_le (Nat.le_refl _)]) ?_
 intro i R' hi
 simp only [List.cons_append, List.nil_append]
 have htk : its.take (i + 1) = its.take i ++ [its.getD i default] := by rw [List.take_succ_eq_append_getElem hi]; simp [List.getD, hi]
 have htl : (its.take i).length = i := by rw [List.length_take]; omega
 refine qo rfl rfl ?_
 refine ae (ah rfl (cH kK) ?_)
 rintro _ _ ⟨bd, rfl, rfl⟩
 refine bc (cD bG rfl rfl rfl rfl rfl) ?_
 rintro _ _ rfl
 refine ac (qn rfl ?_)
 refine aP ?_
 refine wi (b := b1) fun a2 c2 => ?_
 refine ae (a7 rfl (ap fu rfl (az rfl)) ?_)
 refine a7 rfl (cC ed bG rfl rfl) ?_
 refine ah rfl (fM cM bG kK rfl (eB rfl rfl fK) rfl (by decide) (by decide) (by decide)) ?_
 rintro _ _ ⟨b3, rfl, rfl⟩
 refine ah rfl (eg (sz := 6) (by_ := 48) (info := Tryz.t518) cM (by kernel_rfl) rfl rfl rfl rfl (by decide) rfl rfl dK rfl rfl (by simp only [maxLen]; omega) (by omega)) ?_
 rintro _ _ ⟨a1, c1, rfl, rfl⟩
 refine bc (ck eI rfl rfl rfl (Nat.le_of_ble_eq_true rfl) SetL.eq) ?_
 rintro _ _ rfl
 refine ac (bw ?_)
 refine CO (b := b1) (its.take (i + 1)) (by rw [htk]; simp) (by rw [htk]; simp) ?_
 refine nV ?_
 exact ⟨_, ⟨rfl, rfl⟩, inferInstance⟩
 intro D C hC
 subst hC
 refine bw (a8 (aa ?_))
 refine wi (b := b1) fun a2 c2 => ?_
 refine ae (a7 rfl (ap fu rfl (az rfl)) ?_)
 refine a7 rfl (ag rfl) (ac (a8 (ao (m7 (.inl rfl) (.cons (aj rfl) .nil) ?_))))
 exact ⟨_, ⟨a2, c2, rfl, rfl⟩, inferInstance⟩
 intro D C hC
 exact hC.elim
theorem CR (W0 : World) (R : List HP) (bs c : Nat) (a : Option Addr) (its : List It) (hN : its.length < 900) :
    ax Tryz.prog W0 384 [.func (.func 386) #[] #[.pointer (some ⟨bs, 0, none⟩)]]
      (pt bs (am [.slice a its.length c] 515) :: osl 518 6 (.slice a its.length c) (its.flatMap bD) :: R)
      (fun v B => ∃ a' c', v = .slice a' its.length c' ∧ B = osl 518 6 (.slice a' its.length c') (its.flatMap bD) :: osl 518 6 (.slice a its.length c) (its.flatMap bD) :: R) := by
 refine aB func384 ntmps384 rfl rfl ?_
 refine aa (ae (a7 rfl (ag rfl) (ac (a8 (aa (ae (a7 rfl (ab rfl) (ah rfl (fJ call409 rfl (CQ W0 _ bs c a its hN)) ?_))))))))
 rintro _ B_ ⟨a2, c2, rfl, hB_⟩
 obtain rfl := hB_.symm
 refine a7 rfl (ag rfl) (ac (a8 (ao (ak (.inl rfl) (.cons (aj rfl) .nil) ?_))))
 exact ⟨_, ⟨a2, c2, rfl, rfl⟩, inferInstance⟩
theorem wj (x : Int) : ax Tryz.prog W0 387 [.int .i64 x] R (fun v B => v = .bool false ∧ B = R) := by
 refine aB func387 ntmps387 rfl rfl ?_
 refine aa (ae (a7 rfl (ag rfl) (ac (a8 (aa (ae (a7 rfl (ab rfl) (a7 rfl (ab rfl) (a7 rfl (bT rfl rfl) (a7 rfl (ag rfl) (ac (a8 (ao (ak (.inl rfl) (.cons (aj rfl) .nil) ?_))))))))))))))
 refine ⟨_, ⟨?_, rfl⟩, inferInstance⟩
 simp [ct]
def hX (x y : Int) : Int := if x < y then -1 else if x > y then 1 else 0
theorem CS (x y : Int) : ax Tryz.prog W0 355 [.int .i64 x, .int .i64 y] R (fun v B => v = .int .i64 (hX x y) ∧ B = R) := by
 refine aB func355 ntmps355 rfl rfl ?_
 refine aa (ae (a7 rfl (ag rfl) (ac (a8 (aa (ae (a7 rfl (ab rfl) (ah rfl (aS call387 rfl (wj x)) ?_))))))))
 rintro _ B_ ⟨rfl, hB_⟩
 obtain rfl := hB_.symm
 refine a7 rfl (ag rfl) (ac (a8 (aa (ae (a7 rfl (ab rfl) (ah rfl (aS call387 rfl (wj y)) ?_))))))
 rintro _ B_ ⟨rfl, hB_⟩
 obtain rfl := hB_.symm
 refine a7 rfl (ag rfl) (ac (a8 (aa (aa (ae (a7 rfl (ab rfl) (ac (a8 ?_))))))))
 refine au rfl ?_ ?_
 intro c3
 cases c3
 intro c3
 refine aA (a8 (aa (aa (ae (a7 rfl (ab rfl) (ac (a8 ?_)))))))
 refine au rfl ?_ ?_
 intro c7
 cases c7
 intro c7
 refine aA (a8 (aa (aa (ae (a7 rfl (ab rfl) (a7 rfl (ab rfl) (a7 rfl (aV rfl rfl) (ac (a8 ?_)))))))))
 refine au rfl ?_ ?_
 intro c9
 refine aa (ae (a7 rfl (ag rfl) (ac (a8 (ao (aJ (ak (.inl rfl) (.cons (aj rfl) .nil) ?_)))))))
 refine ⟨_, ⟨?_, rfl⟩, inferInstance⟩
 rw [hX, if_pos c9]; rfl
 intro c9
 refine aA (a8 (aa (aa (ae (a7 rfl (ab rfl) (a7 rfl (ab rfl) (a7 rfl (cA rfl rfl) (ac (a8 ?_)))))))))
 refine au rfl ?_ ?_
 intro c11
 refine aa (ae (a7 rfl (ag rfl) (ac (a8 (ao (aJ (ak (.inl rfl) (.cons (aj rfl) .nil) ?_)))))))
 refine ⟨_, ⟨?_, rfl⟩, inferInstance⟩
 rw [hX, if_neg c9, if_pos (by omega)]; rfl
 intro c11
 refine aA (a8 (aa (ae (a7 rfl (ag rfl) (ac (a8 (ao (ak (.inl rfl) (.cons (aj rfl) .nil) ?_))))))))
 refine ⟨_, ⟨?_, rfl⟩, inferInstance⟩
 rw [hX, if_neg c9, if_neg (by omega)]; rfl
theorem wl (x y : It) : ax Tryz.prog W0 354 [.agg (bD x).toArray, .agg (bD y).toArray] R (fun v B => v = .int .i64 (hX x.u y.u) ∧ B = R) := by
 refine aB func354 ntmps354 rfl rfl ?_
 refine aa (ae (ah rfl (bL rfl) ?_))
 rintro _ _ ⟨b1, rfl, rfl⟩
 refine ah rfl (bL rfl) ?_
 rintro _ _ ⟨b2, rfl, rfl⟩
 refine a7 rfl (ag rfl) (ac (a8 (aa (ae ?_))))
 refine a7 rfl (ar rfl jb rfl aC rfl (by first | exact Nat.zero_add _ | rfl)) ?_
 refine a7 rfl (ap aM rfl (az rfl)) ?_
 refine a7 rfl (ar rfl jb rfl aC rfl (by first | exact Nat.zero_add _ | rfl)) ?_
 refine a7 rfl (ap aM rfl (az rfl)) ?_
 refine ah rfl (aS call355 rfl (CS x.u y.u)) ?_
 rintro _ B_ ⟨rfl, hB_⟩
 obtain rfl := hB_.symm
 refine a7 rfl (ag rfl) (ac (a8 (ao (ak (.inl rfl) (.cons (aj rfl) .nil) ?_))))
 exact ⟨_, ⟨rfl, rfl⟩, inferInstance⟩
def pd (l : List It) (j i : Nat) : Prop := ∀ p q, p < q → q ≤ i → q ≠ j → us l p ≤ us l q
theorem pf {l : List It} {j i : Nat} (h : pd l j i) (hj : 0 < j) (hji : j ≤ i) (hi : i < l.length) (hlt : us l j < us l (j - 1)) : pd (swapL l j (j - 1)) (j - 1) i := by
 have sw := fR (l := l) (i := j) (j := j - 1) (by omega) (by omega)
 intro p q hpq hq hne
 rw [sw, sw]
 have hjj : ¬ j - 1 = j := by omega
 by_cases e1 : q = j
 subst e1
 rw [if_pos (rfl : q = q)]
 by_cases e2 : p = q - 1
 rw [if_neg (by omega), if_pos e2]; omega
 rw [if_neg (by omega), if_neg e2]; exact h p (q - 1) (by omega) (by omega) (by omega)
 rw [if_neg e1, if_neg hne]
 by_cases e2 : p = j
 rw [if_pos e2]; exact h (j - 1) q (by omega) hq e1
 rw [if_neg e2]
 by_cases e3 : p = j - 1
 rw [if_pos e3]; exact h j q (by omega) hq e1
 rw [if_neg e3]; exact h p q hpq hq e1
theorem rR {l : List It} {j i : Nat} (h : pd l j i) (hd : j = 0 ∨ us l (j - 1) ≤ us l j) : ∀ p q, p < q → q ≤ i → us l p ≤ us l q := fun p q hpq hq => by
 by_cases e : q = j
 subst e
 rcases hd with h0 | h1
 omega
 by_cases e2 : p = q - 1
 subst e2; exact h1
 have := h p (q - 1) (by omega) (by omega) (by omega); omega
 exact h p q hpq hq e
theorem CU (W0 : World) (R : List HP) (g c : Nat) (its : List It) (sp : List Value) (hN : its.length < 900) (h0 : 0 < its.length) :
    ax Tryz.prog W0 423 [.slice (some ⟨g, 0, none⟩) its.length c, .int .i64 0, .int .i64 (its.length : Nat), .func (.func 354) #[] #[]]
      (pt g (am (its.flatMap bD ++ sp) 518) :: R)
      (fun v B => ∃ l : List It, v = .tuple #[] ∧ B = pt g (am (l.flatMap bD ++ sp) 518) :: R ∧ l.Perm its ∧ ∀ p q, p < q → q < its.length → us l p ≤ us l q) := by
 refine aB func423 ntmps423 rfl rfl ?_
 refine aa (ae (a7 rfl (ab rfl) ?_))
 refine a7 rfl (bz rfl rfl (aT (by omega))) ?_
 refine a7 rfl (ag rfl) (ac (a8 (aP ?_)))
 refine bX (fun X : List It × Nat => X.1.Perm its ∧ 0 < X.2 ∧ X.2 ≤ its.length ∧ ∀ p q, p < q → q < X.2 → us X.1 p ≤ us X.1 q) (fun X => [(0, .slice (some ⟨g, 0, none⟩) its.length c), (1, .int .i64 0), (2, .int .i64 (its.length : Nat)), (3, .func (.func 354) #[] #[]), (8, .int .i64 X.2)]) (fun X => pt g (am (X.1.flatMap bD ++ sp) 518) :: R) (fun X => its.length - X.2) (its, 1) ?_ ?_ ?_ ?_
 exact ⟨List.Perm.refl _, Nat.one_pos, h0, fun p q h1 h2 => by dsimp only at h2; omega⟩
 · repeat (first | exact aQ | refine aO rfl ?_)
 exact inferInstance
 intro ⟨l, i⟩ ⟨hp, hi0, hi, hS⟩
 dsimp only at hp hi0 hi hS ⊢
 refine aa (aa (ae (a7 rfl (ab rfl) (a7 rfl (ab rfl) (a7 rfl (aV rfl rfl) (ac (a8 ?_)))))))
 refine au rfl ?_ ?_
 intro c1
 refine aA (a8 (aa (aP (aa (ae (a7 rfl (ab rfl) (a7 rfl (ag rfl) (ac (a8 (aP ?_))))))))))
 refine bX (fun X : List It × Nat => X.1.Perm its ∧ X.2 ≤ i ∧ pd X.1 X.2 i) (fun X => [(0, .slice (some ⟨g, 0, none⟩) its.length c), (1, .int .i64 0), (2, .int .i64 (its.length : Nat)), (3, .func (.func 354) #[] #[]), (8, .int .i64 i), (9, .int .i64 X.2)]) (fun X => pt g (am (X.1.flatMap bD ++ sp) 518) :: R) (fun X => X.2) (l, i) ?_ ?_ ?_ ?_
 exact ⟨hp, Nat.le_refl _, fun p q h1 h2 h3 => hS p q h1 (by dsimp only at h3; omega)⟩
 · repeat (first | exact aQ | refine aO rfl ?_)
 exact inferInstance
 intro ⟨l2, j⟩ ⟨hp2, hj, hS2⟩
 dsimp only at hp2 hj hS2 ⊢
 have hl2 := hp2.length_eq
 refine aa (aa ?_)
 refine di [(g, 0, _)] 17 d4 rfl (aE aH) (fun hS => ?_)
 refine ai 0 rfl rfl (by kernel_rfl) (by kernel_rfl) (by kernel_rfl) rfl hS (ab rfl) ?_
 refine ai 1 rfl rfl (by kernel_rfl) (by kernel_rfl) (by kernel_rfl) rfl hS (ab rfl) ?_
 refine ai 2 rfl rfl (by kernel_rfl) (by kernel_rfl) (by kernel_rfl) rfl hS (cA rfl rfl) ?_
 refine ai 3 rfl rfl (by kernel_rfl) (by kernel_rfl) (by kernel_rfl) rfl hS (ab rfl) ?_
 refine jj (t := 21) rfl ?_ ?_
 intro c4g
 have hj0 : 0 < j := by omega
 have hjl : j < l2.length := by omega
 have hjm : (j : Int) - 1 = ((j - 1 : Nat) : Int) := by omega
 refine ai 4 rfl rfl (by kernel_rfl) (by kernel_rfl) (by kernel_rfl) rfl hS (ab rfl) ?_
 refine ai 5 rfl rfl (by kernel_rfl) (by kernel_rfl) (by kernel_rfl) rfl hS (ab rfl) ?_
 refine ai 6 rfl rfl (by kernel_rfl) (by kernel_rfl) (by kernel_rfl) rfl hS (ab rfl) ?_
 refine ai 7 rfl rfl (by kernel_rfl) (by kernel_rfl) (by kernel_rfl) rfl hS (bK cM bG rfl rfl rfl (by omega) (by first | exact Nat.zero_add _ | rfl)) ?_
 refine ai 9 rfl rfl (by kernel_rfl) (by kernel_rfl) (by kernel_rfl) rfl hS (ab rfl) ?_
 refine ai 10 rfl rfl (by kernel_rfl) (by kernel_rfl) (by kernel_rfl) rfl hS (ab rfl) ?_
 refine ai 11 rfl rfl (by kernel_rfl) (by kernel_rfl) (by kernel_rfl) rfl hS (d7 rfl rfl (by rw [aT (by omega)]; omega : IntKind.wrap .i64 ((j : Int) - 1) = ((j - 1 : Nat) : Int))) ?_
 refine ai 12 rfl rfl (by kernel_rfl) (by kernel_rfl) (by kernel_rfl) rfl hS (bK cM bG rfl rfl rfl (by omega) (by first | exact Nat.zero_add _ | rfl)) ?_
 refine gS (is := [8, 13]) (by kernel_rfl) rfl ⟨?_, ?_, trivial⟩
 skip
 refine dP rfl rfl (df (bN ed bG rfl (dt (eS l2 sp j hjl) rfl) rfl)) rfl ?_; clear hS
 rintro _ _ ⟨rfl, rfl⟩
 refine ⟨(aE aH), fun hS => ?_⟩
 refine b0 13 (by kernel_rfl) rfl rfl (df (bN ed bG rfl (dt (eS l2 sp (j - 1) (by omega)) rfl) rfl)) rfl ?_; clear hS
 rintro _ _ ⟨rfl, rfl⟩
 refine ⟨(aE aH), fun hS => ?_⟩
 refine b0 14 (by kernel_rfl) rfl rfl (iB rfl call354 rfl (wl (l2.getD j default) (l2.getD (j - 1) default))) rfl ?_; clear hS
 rintro _ B_ ⟨rfl, hB_⟩
 obtain rfl := hB_.symm
 refine ⟨(aE aH), fun hS => ?_⟩
 refine ai 15 rfl rfl (by kernel_rfl) (by kernel_rfl) (by kernel_rfl) rfl hS (aV rfl rfl) ?_
 refine ai 16 rfl rfl (by kernel_rfl) (by kernel_rfl) (by kernel_rfl) rfl hS (bI rfl rfl) ?_
 refine cm (by kernel_rfl) ?_; clear hS
 refine a8 ?_
 refine au rfl ?_ ?_
 intro c4
 refine aA (a8 (aa (aP ?_)))
 refine di [] 18 d4 rfl aH (fun hS => ?_)
 refine ai 0 rfl rfl (by kernel_rfl) (by kernel_rfl) (by kernel_rfl) rfl hS (ab rfl) ?_
 refine ai 1 rfl rfl (by kernel_rfl) (by kernel_rfl) (by kernel_rfl) rfl hS (ab rfl) ?_
 refine ai 2 rfl rfl (by kernel_rfl) (by kernel_rfl) (by kernel_rfl) rfl hS (ab rfl) ?_
 refine ai 3 rfl rfl (by kernel_rfl) (by kernel_rfl) (by kernel_rfl) rfl hS (ab rfl) ?_
 refine ai 4 rfl rfl (by kernel_rfl) (by kernel_rfl) (by kernel_rfl) rfl hS (d7 rfl rfl (by rw [aT (by omega)]; omega : IntKind.wrap .i64 ((j : Int) - 1) = ((j - 1 : Nat) : Int))) ?_
 refine ai 5 rfl rfl (by kernel_rfl) (by kernel_rfl) (by kernel_rfl) rfl hS (ab rfl) ?_
 refine ai 6 rfl rfl (by kernel_rfl) (by kernel_rfl) (by kernel_rfl) rfl hS (ab rfl) ?_
 refine ai 7 rfl rfl (by kernel_rfl) (by kernel_rfl) (by kernel_rfl) rfl hS (d7 rfl rfl (by rw [aT (by omega)]; omega : IntKind.wrap .i64 ((j : Int) - 1) = ((j - 1 : Nat) : Int))) ?_
 refine ai 8 rfl rfl (by kernel_rfl) (by kernel_rfl) (by kernel_rfl) rfl hS (bK cM bG rfl rfl rfl (by omega) (by first | exact Nat.zero_add _ | rfl)) ?_
 refine ai 10 rfl rfl (by kernel_rfl) (by kernel_rfl) (by kernel_rfl) rfl hS (ab rfl) ?_
 refine ai 11 rfl rfl (by kernel_rfl) (by kernel_rfl) (by kernel_rfl) rfl hS (ab rfl) ?_
 refine ai 12 rfl rfl (by kernel_rfl) (by kernel_rfl) (by kernel_rfl) rfl hS (bK cM bG rfl rfl rfl (by omega) (by first | exact Nat.zero_add _ | rfl)) ?_
 refine gS (is := [9, 13]) (by kernel_rfl) rfl ⟨?_, ?_, trivial⟩
 skip
 refine dP rfl rfl (df (bN ed bG rfl (dt (eS l2 sp (j - 1) (by omega)) rfl) rfl)) rfl ?_; clear hS
 rintro _ _ ⟨rfl, rfl⟩
 refine ⟨aH, fun hS => ?_⟩
 refine b0 13 (by kernel_rfl) rfl rfl (df (bN ed bG rfl (dt (eS l2 sp j hjl) rfl) rfl)) rfl ?_; clear hS
 rintro _ _ ⟨rfl, rfl⟩
 refine ⟨aH, fun hS => ?_⟩
 refine ai 14 rfl rfl (by kernel_rfl) (by kernel_rfl) (by kernel_rfl) rfl hS (bK cM bG rfl rfl rfl (by omega) (by first | exact Nat.zero_add _ | rfl)) ?_
 refine b0 15 (by kernel_rfl) rfl rfl (fy bG rfl rfl rfl rfl (hM l2 sp j hjl) (hJ l2 sp j (l2.getD (j - 1) default) hjl)) rfl ?_; clear hS
 rintro _ _ rfl
 refine ⟨aH, fun hS => ?_⟩
 refine ai 16 rfl rfl (by kernel_rfl) (by kernel_rfl) (by kernel_rfl) rfl hS (bK cM bG rfl rfl rfl (by omega) (by first | exact Nat.zero_add _ | rfl)) ?_
 refine b0 17 (by kernel_rfl) rfl rfl (fy bG rfl rfl rfl rfl (hM (l2.set j (l2.getD (j - 1) default)) sp (j - 1) (by rw [List.length_set]; omega)) (hJ (l2.set j (l2.getD (j - 1) default)) sp (j - 1) (l2.getD j default) (by rw [List.length_set]; omega))) rfl ?_; clear hS
 rintro _ _ rfl
 refine ⟨aH, fun hS => ?_⟩
 refine cm (by kernel_rfl) ?_; clear hS
 refine bw (a8 (ae (a7 rfl (ab rfl) ?_)))
 refine a7 rfl (d7 rfl rfl (by rw [aT (by omega)]; omega : IntKind.wrap .i64 ((j : Int) - 1) = ((j - 1 : Nat) : Int))) ?_
 refine a7 rfl (ag rfl) (ac (a8 ?_))
 refine cg (swapL l2 j (j - 1), j - 1) ?_ ?_ ?_ ?_
 have hlt : us l2 j < us l2 (j - 1) := by
  unfold us
  unfold hX at c4
  split at c4
  assumption
  split at c4 <;> omega
 exact ⟨(fz hjl (by omega)).trans hp2, by show j - 1 ≤ i; omega, pf hS2 hj0 hj (by omega) hlt⟩
 show j - 1 < j; omega
 · repeat (first | exact aQ | refine aO rfl ?_)
 show Ent _ (pt g (am ((swapL l2 j (j - 1)).flatMap bD ++ sp) 518) :: R)
 unfold swapL
 exact inferInstance
 skip
 refine dP rfl rfl (df (bN ed bG rfl (dt (eS l2 sp j hjl) rfl) rfl)) rfl ?_; clear hS
 rintro _ _ ⟨rfl, rfl⟩
 refine ⟨aH, fun hS => ?_⟩
 refine b0 9 (by kernel_rfl) rfl rfl (df (bN ed bG rfl (dt (eS l2 sp (j - 1) (by omega)) rfl) rfl)) rfl ?_; clear hS
 rintro _ _ ⟨rfl, rfl⟩
 refine ⟨aH, fun hS => ?_⟩
 refine ai 14 rfl rfl (by kernel_rfl) (by kernel_rfl) (by kernel_rfl) rfl hS (bK cM bG rfl rfl rfl (by omega) (by first | exact Nat.zero_add _ | rfl)) ?_
 refine b0 15 (by kernel_rfl) rfl rfl (fy bG rfl rfl rfl rfl (hM l2 sp j hjl) (hJ l2 sp j (l2.getD (j - 1) default) hjl)) rfl ?_; clear hS
 rintro _ _ rfl
 refine ⟨aH, fun hS => ?_⟩
 refine ai 16 rfl rfl (by kernel_rfl) (by kernel_rfl) (by kernel_rfl) rfl hS (bK cM bG rfl rfl rfl (by omega) (by first | exact Nat.zero_add _ | rfl)) ?_
 refine b0 17 (by kernel_rfl) rfl rfl (fy bG rfl rfl rfl rfl (hM (l2.set j (l2.getD (j - 1) default)) sp (j - 1) (by rw [List.length_set]; omega)) (hJ (l2.set j (l2.getD (j - 1) default)) sp (j - 1) (l2.getD j default) (by rw [List.length_set]; omega))) rfl ?_; clear hS
 rintro _ _ rfl
 refine ⟨aH, fun hS => ?_⟩
 refine cm (by kernel_rfl) ?_; clear hS
 refine bw (a8 (ae (a7 rfl (ab rfl) ?_)))
 refine a7 rfl (d7 rfl rfl (by rw [aT (by omega)]; omega : IntKind.wrap .i64 ((j : Int) - 1) = ((j - 1 : Nat) : Int))) ?_
 refine a7 rfl (ag rfl) (ac (a8 ?_))
 refine cg (swapL l2 j (j - 1), j - 1) ?_ ?_ ?_ ?_
 have hlt : us l2 j < us l2 (j - 1) := by
  unfold us
  unfold hX at c4
  split at c4
  assumption
  split at c4 <;> omega
 exact ⟨(fz hjl (by omega)).trans hp2, by show j - 1 ≤ i; omega, pf hS2 hj0 hj (by omega) hlt⟩
 show j - 1 < j; omega
 · repeat (first | exact aQ | refine aO rfl ?_)
 show Ent _ (pt g (am ((swapL l2 j (j - 1)).flatMap bD ++ sp) 518) :: R)
 unfold swapL
 exact inferInstance
 intro c4
 refine bF (aR (aR (bH (bw (a8 ?_)))))
 have hS3 : ∀ p q, p < q → q ≤ i → us l2 p ≤ us l2 q := rR hS2 (by
   first
     | (left; omega)
     | (right
        unfold us
        unfold hX at c4
        split at c4
        · omega
        omega))
 refine ae (a7 rfl (ab rfl) ?_)
 refine a7 rfl (bz rfl rfl (by rw [aT (by omega)]; omega : IntKind.wrap .i64 ((i : Int) + 1) = ((i + 1 : Nat) : Int))) ?_
 refine a7 rfl (ag rfl) (ac (a8 ?_))
 refine cg (l2, i + 1) ?_ ?_ ?_ ?_
 exact ⟨hp2, Nat.succ_pos _, by show i + 1 ≤ its.length; omega, fun p q h1 h2 => hS3 p q h1 (by dsimp only at h2; omega)⟩
 show its.length - (i + 1) < its.length - i; omega
 · repeat (first | exact aQ | refine aO rfl ?_)
 exact inferInstance
 skip
 refine dP rfl rfl (df (bN ed bG rfl (dt (eS l2 sp (j - 1) (by omega)) rfl) rfl)) rfl ?_; clear hS
 rintro _ _ ⟨rfl, rfl⟩
 refine ⟨(aE aH), fun hS => ?_⟩
 refine b0 8 (by kernel_rfl) rfl rfl (df (bN ed bG rfl (dt (eS l2 sp j hjl) rfl) rfl)) rfl ?_; clear hS
 rintro _ _ ⟨rfl, rfl⟩
 refine ⟨(aE aH), fun hS => ?_⟩
 refine b0 14 (by kernel_rfl) rfl rfl (iB rfl call354 rfl (wl (l2.getD j default) (l2.getD (j - 1) default))) rfl ?_; clear hS
 rintro _ B_ ⟨rfl, hB_⟩
 obtain rfl := hB_.symm
 refine ⟨(aE aH), fun hS => ?_⟩
 refine ai 15 rfl rfl (by kernel_rfl) (by kernel_rfl) (by kernel_rfl) rfl hS (aV rfl rfl) ?_
 refine ai 16 rfl rfl (by kernel_rfl) (by kernel_rfl) (by kernel_rfl) rfl hS (bI rfl rfl) ?_
 refine cm (by kernel_rfl) ?_; clear hS
 refine a8 ?_
 refine au rfl ?_ ?_
 intro c4
 refine aA (a8 (aa (aP ?_)))
 refine di [] 18 d4 rfl aH (fun hS => ?_)
 refine ai 0 rfl rfl (by kernel_rfl) (by kernel_rfl) (by kernel_rfl) rfl hS (ab rfl) ?_
 refine ai 1 rfl rfl (by kernel_rfl) (by kernel_rfl) (by kernel_rfl) rfl hS (ab rfl) ?_
 refine ai 2 rfl rfl (by kernel_rfl) (by kernel_rfl) (by kernel_rfl) rfl hS (ab rfl) ?_
 refine ai 3 rfl rfl (by kernel_rfl) (by kernel_rfl) (by kernel_rfl) rfl hS (ab rfl) ?_
 refine ai 4 rfl rfl (by kernel_rfl) (by kernel_rfl) (by kernel_rfl) rfl hS (d7 rfl rfl (by rw [aT (by omega)]; omega : IntKind.wrap .i64 ((j : Int) - 1) = ((j - 1 : Nat) : Int))) ?_
 refine ai 5 rfl rfl (by kernel_rfl) (by kernel_rfl) (by kernel_rfl) rfl hS (ab rfl) ?_
 refine ai 6 rfl rfl (by kernel_rfl) (by kernel_rfl) (by kernel_rfl) rfl hS (ab rfl) ?_
 refine ai 7 rfl rfl (by kernel_rfl) (by kernel_rfl) (by kernel_rfl) rfl hS (d7 rfl rfl (by rw [aT (by omega)]; omega : IntKind.wrap .i64 ((j : Int) - 1) = ((j - 1 : Nat) : Int))) ?_
 refine ai 8 rfl rfl (by kernel_rfl) (by kernel_rfl) (by kernel_rfl) rfl hS (bK cM bG rfl rfl rfl (by omega) (by first | exact Nat.zero_add _ | rfl)) ?_
 refine ai 10 rfl rfl (by kernel_rfl) (by kernel_rfl) (by kernel_rfl) rfl hS (ab rfl) ?_
 refine ai 11 rfl rfl (by kernel_rfl) (by kernel_rfl) (by kernel_rfl) rfl hS (ab rfl) ?_
 refine ai 12 rfl rfl (by kernel_rfl) (by kernel_rfl) (by kernel_rfl) rfl hS (bK cM bG rfl rfl rfl (by omega) (by first | exact Nat.zero_add _ | rfl)) ?_
 refine gS (is := [9, 13]) (by kernel_rfl) rfl ⟨?_, ?_, trivial⟩
 skip
 refine dP rfl rfl (df (bN ed bG rfl (dt (eS l2 sp (j - 1) (by omega)) rfl) rfl)) rfl ?_; clear hS
 rintro _ _ ⟨rfl, rfl⟩
 refine ⟨aH, fun hS => ?_⟩
 refine b0 13 (by kernel_rfl) rfl rfl (df (bN ed bG rfl (dt (eS l2 sp j hjl) rfl) rfl)) rfl ?_; clear hS
 rintro _ _ ⟨rfl, rfl⟩
 refine ⟨aH, fun hS => ?_⟩
 refine ai 14 rfl rfl (by kernel_rfl) (by kernel_rfl) (by kernel_rfl) rfl hS (bK cM bG rfl rfl rfl (by omega) (by first | exact Nat.zero_add _ | rfl)) ?_
 refine b0 15 (by kernel_rfl) rfl rfl (fy bG rfl rfl rfl rfl (hM l2 sp j hjl) (hJ l2 sp j (l2.getD (j - 1) default) hjl)) rfl ?_; clear hS
 rintro _ _ rfl
 refine ⟨aH, fun hS => ?_⟩
 refine ai 16 rfl rfl (by kernel_rfl) (by kernel_rfl) (by kernel_rfl) rfl hS (bK cM bG rfl rfl rfl (by omega) (by first | exact Nat.zero_add _ | rfl)) ?_
 refine b0 17 (by kernel_rfl) rfl rfl (fy bG rfl rfl rfl rfl (hM (l2.set j (l2.getD (j - 1) default)) sp (j - 1) (by rw [List.length_set]; omega)) (hJ (l2.set j (l2.getD (j - 1) default)) sp (j - 1) (l2.getD j default) (by rw [List.length_set]; omega))) rfl ?_; clear hS
 rintro _ _ rfl
 refine ⟨aH, fun hS => ?_⟩
 refine cm (by kernel_rfl) ?_; clear hS
 refine bw (a8 (ae (a7 rfl (ab rfl) ?_)))
 refine a7 rfl (d7 rfl rfl (by rw [aT (by omega)]; omega : IntKind.wrap .i64 ((j : Int) - 1) = ((j - 1 : Nat) : Int))) ?_
 refine a7 rfl (ag rfl) (ac (a8 ?_))
 refine cg (swapL l2 j (j - 1), j - 1) ?_ ?_ ?_ ?_
 have hlt : us l2 j < us l2 (j - 1) := by
  unfold us
  unfold hX at c4
  split at c4
  assumption
  split at c4 <;> omega
 exact ⟨(fz hjl (by omega)).trans hp2, by show j - 1 ≤ i; omega, pf hS2 hj0 hj (by omega) hlt⟩
 show j - 1 < j; omega
 · repeat (first | exact aQ | refine aO rfl ?_)
 show Ent _ (pt g (am ((swapL l2 j (j - 1)).flatMap bD ++ sp) 518) :: R)
 unfold swapL
 exact inferInstance
 skip
 refine dP rfl rfl (df (bN ed bG rfl (dt (eS l2 sp j hjl) rfl) rfl)) rfl ?_; clear hS
 rintro _ _ ⟨rfl, rfl⟩
 refine ⟨aH, fun hS => ?_⟩
 refine b0 9 (by kernel_rfl) rfl rfl (df (bN ed bG rfl (dt (eS l2 sp (j - 1) (by omega)) rfl) rfl)) rfl ?_; clear hS
 rintro _ _ ⟨rfl, rfl⟩
 refine ⟨aH, fun hS => ?_⟩
 refine ai 14 rfl rfl (by kernel_rfl) (by kernel_rfl) (by kernel_rfl) rfl hS (bK cM bG rfl rfl rfl (by omega) (by first | exact Nat.zero_add _ | rfl)) ?_
 refine b0 15 (by kernel_rfl) rfl rfl (fy bG rfl rfl rfl rfl (hM l2 sp j hjl) (hJ l2 sp j (l2.getD (j - 1) default) hjl)) rfl ?_; clear hS
 rintro _ _ rfl
 refine ⟨aH, fun hS => ?_⟩
 refine ai 16 rfl rfl (by kernel_rfl) (by kernel_rfl) (by kernel_rfl) rfl hS (bK cM bG rfl rfl rfl (by omega) (by first | exact Nat.zero_add _ | rfl)) ?_
 refine b0 17 (by kernel_rfl) rfl rfl (fy bG rfl rfl rfl rfl (hM (l2.set j (l2.getD (j - 1) default)) sp (j - 1) (by rw [List.length_set]; omega)) (hJ (l2.set j (l2.getD (j - 1) default)) sp (j - 1) (l2.getD j default) (by rw [List.length_set]; omega))) rfl ?_; clear hS
 rintro _ _ rfl
 refine ⟨aH, fun hS => ?_⟩
 refine cm (by kernel_rfl) ?_; clear hS
 refine bw (a8 (ae (a7 rfl (ab rfl) ?_)))
 refine a7 rfl (d7 rfl rfl (by rw [aT (by omega)]; omega : IntKind.wrap .i64 ((j : Int) - 1) = ((j - 1 : Nat) : Int))) ?_
 refine a7 rfl (ag rfl) (ac (a8 ?_))
 refine cg (swapL l2 j (j - 1), j - 1) ?_ ?_ ?_ ?_
 have hlt : us l2 j < us l2 (j - 1) := by
  unfold us
  unfold hX at c4
  split at c4
  assumption
  split at c4 <;> omega
 exact ⟨(fz hjl (by omega)).trans hp2, by show j - 1 ≤ i; omega, pf hS2 hj0 hj (by omega) hlt⟩
 show j - 1 < j; omega
 · repeat (first | exact aQ | refine aO rfl ?_)
 show Ent _ (pt g (am ((swapL l2 j (j - 1)).flatMap bD ++ sp) 518) :: R)
 unfold swapL
 exact inferInstance
 intro c4
 refine bF (aR (aR (bH (bw (a8 ?_)))))
 have hS3 : ∀ p q, p < q → q ≤ i → us l2 p ≤ us l2 q := rR hS2 (by
   first
     | (left; omega)
     | (right
        unfold us
        unfold hX at c4
        split at c4
        · omega
        omega))
 refine ae (a7 rfl (ab rfl) ?_)
 refine a7 rfl (bz rfl rfl (by rw [aT (by omega)]; omega : IntKind.wrap .i64 ((i : Int) + 1) = ((i + 1 : Nat) : Int))) ?_
 refine a7 rfl (ag rfl) (ac (a8 ?_))
 refine cg (l2, i + 1) ?_ ?_ ?_ ?_
 exact ⟨hp2, Nat.succ_pos _, by show i + 1 ≤ its.length; omega, fun p q h1 h2 => hS3 p q h1 (by dsimp only at h2; omega)⟩
 show its.length - (i + 1) < its.length - i; omega
 · repeat (first | exact aQ | refine aO rfl ?_)
 exact inferInstance
 intro c4g
 refine dD 4 rfl rfl (by kernel_rfl) (by kernel_rfl) (by kernel_rfl) rfl hS ?_
 refine dD 5 rfl rfl (by kernel_rfl) (by kernel_rfl) (by kernel_rfl) rfl hS ?_
 refine dD 6 rfl rfl (by kernel_rfl) (by kernel_rfl) (by kernel_rfl) rfl hS ?_
 refine dD 7 rfl rfl (by kernel_rfl) (by kernel_rfl) (by kernel_rfl) rfl hS ?_
 refine dD 8 rfl rfl (by kernel_rfl) (by kernel_rfl) (by kernel_rfl) rfl hS ?_
 refine dD 9 rfl rfl (by kernel_rfl) (by kernel_rfl) (by kernel_rfl) rfl hS ?_
 refine dD 10 rfl rfl (by kernel_rfl) (by kernel_rfl) (by kernel_rfl) rfl hS ?_
 refine dD 11 rfl rfl (by kernel_rfl) (by kernel_rfl) (by kernel_rfl) rfl hS ?_
 refine dD 12 rfl rfl (by kernel_rfl) (by kernel_rfl) (by kernel_rfl) rfl hS ?_
 refine dD 13 rfl rfl (by kernel_rfl) (by kernel_rfl) (by kernel_rfl) rfl hS ?_
 refine dD 14 rfl rfl (by kernel_rfl) (by kernel_rfl) (by kernel_rfl) rfl hS ?_
 refine dD 15 rfl rfl (by kernel_rfl) (by kernel_rfl) (by kernel_rfl) rfl hS ?_
 refine ai 16 rfl rfl (by kernel_rfl) (by kernel_rfl) (by kernel_rfl) rfl hS (aX rfl rfl) ?_
 refine cm (by kernel_rfl) ?_; clear hS
 refine a8 (iA rfl (bF (aR (aR (bH (bw (a8 ?_)))))))
 have hS3 : ∀ p q, p < q → q ≤ i → us l2 p ≤ us l2 q := rR hS2 (by
   first
     | (left; omega)
     | (right
        unfold us
        unfold hX at c4
        split at c4
        · omega
        omega))
 refine ae (a7 rfl (ab rfl) ?_)
 refine a7 rfl (bz rfl rfl (by rw [aT (by omega)]; omega : IntKind.wrap .i64 ((i : Int) + 1) = ((i + 1 : Nat) : Int))) ?_
 refine a7 rfl (ag rfl) (ac (a8 ?_))
 refine cg (l2, i + 1) ?_ ?_ ?_ ?_
 exact ⟨hp2, Nat.succ_pos _, by show i + 1 ≤ its.length; omega, fun p q h1 h2 => hS3 p q h1 (by dsimp only at h2; omega)⟩
 show its.length - (i + 1) < its.length - i; omega
 · repeat (first | exact aQ | refine aO rfl ?_)
 exact inferInstance
 intro c1
 refine bF (aR (aR (bH (ak (.inr rfl) .nil ?_))))
 obtain rfl : i = its.length := by omega
 exact ⟨_, ⟨l, rfl, rfl, hp, hS⟩, inferInstance⟩
theorem CV (x : Nat) (hx : x < 60000) : ax Tryz.prog W0 432 [.int .u64 x] R (fun v B => ∃ r : Nat, v = .int .i64 r ∧ B = R) := by
 refine aB func432 ntmps432 rfl rfl ?_
 refine aa (ae (a7 rfl (ag rfl) (ac (a8 (aa (aa (ae (a7 rfl (ab rfl) (a7 rfl (dr rfl rfl) (ac (a8 ?_)))))))))))
 refine au rfl ?_ ?_
 intro c1
 omega
 intro c1
 refine aA (a8 (aa (aa (ae (a7 rfl (ab rfl) (a7 rfl (dr rfl rfl) (ac (a8 ?_))))))))
 refine au rfl ?_ ?_
 intro c4
 omega
 intro c4
 refine aA (a8 ?_)
 refine gQ (fun z : Nat × Nat => z.1 < 256 ∧ z.2 ≤ 8) (fun z => [(0, .int .u64 z.1), (2, .int .i64 z.2)]) (fun _ => R) ?_ ?_
 skip
 refine aa (ae (a7 rfl (ab rfl) (a7 rfl (dr rfl rfl) (ac (a8 ?_)))))
 refine au rfl ?_ ?_
 intro c7
 refine aa (ae (a7 rfl (ab rfl) ?_))
 refine a7 rfl (nE rfl rfl (by decide) (qi (s := 8) (by decide))) ?_
 refine a7 rfl (ag rfl) (ac (a8 (ae (a7 rfl (ab rfl) ?_))))
 refine a7 rfl (bz rfl rfl (by first | exact aT (by omega) | rfl)) ?_
 refine a7 rfl (ag rfl) (ac (a8 ?_))
 refine dG (x / 2 ^ 8, 8) ?_ ?_ ?_
 exact ⟨by show x / 256 < 256; omega, Nat.le_refl _⟩
 · repeat (first | exact aQ | refine aO rfl ?_)
 exact inferInstance
 intro c7
 refine aA (a8 ?_)
 refine dG (x, 0) ?_ ?_ ?_
 exact ⟨by show x < 256; omega, Nat.zero_le _⟩
 · repeat (first | exact aQ | refine aO rfl ?_)
 exact inferInstance
 intro ⟨y, n⟩ ⟨hy, hn⟩
 dsimp only at hy hn ⊢
 refine aa (ae (a7 rfl (ab rfl) (a7 rfl (ab rfl) ?_)))
 refine a7 rfl (kR underlying477 s6 rfl (yd (by omega))) ?_
 refine zo (j := y) rfl underlying9 rfl rfl rfl (by show y < 256; exact hy) fun m hm => ?_
 refine a7 rfl (kR s6 dF rfl (aT (by omega))) ?_
 refine a7 rfl (bz rfl rfl (by rw [aT (by omega)]; omega : IntKind.wrap .i64 ((n : Int) + (m : Int)) = ((n + m : Nat) : Int))) ?_
 refine a7 rfl (ag rfl) (ac (a8 (ao (ak (.inl rfl) (.cons (aj rfl) .nil) ?_))))
 exact ⟨_, ⟨n + m, rfl, rfl⟩, inferInstance⟩
theorem rS (x : Nat) (hx : x < 60000) : ax Tryz.prog W0 411 [.int .u64 x] R (fun v B => ∃ r : Nat, v = .int .i64 r ∧ B = R) := by
 refine aB func411 ntmps411 rfl rfl ?_
 refine aa (ae (a7 rfl (ag rfl) (ac (a8 (aa (zm ?_))))))
 refine aA (a8 (aa (ae (a7 rfl (ab rfl) (ah rfl (aS call432 rfl (CV x hx)) ?_)))))
 rintro _ B_ ⟨r, rfl, hB_⟩
 obtain rfl := hB_.symm
 refine a7 rfl (ag rfl) (ac (a8 (ao (ak (.inl rfl) (.cons (aj rfl) .nil) ?_))))
 exact ⟨_, ⟨r, rfl, rfl⟩, inferInstance⟩
theorem CW (W0 : World) (R : List HP) (g c : Nat) (its : List It) (sp : List Value) (k : Int) (hN : its.length ≤ 12) (h0 : 0 < its.length) :
    ax Tryz.prog W0 410 [.slice (some ⟨g, 0, none⟩) its.length c, .int .i64 0, .int .i64 (its.length : Nat), .int .i64 k, .func (.func 354) #[] #[]]
      (pt g (am (its.flatMap bD ++ sp) 518) :: R)
      (fun v B => ∃ l : List It, v = .tuple #[] ∧ B = pt g (am (l.flatMap bD ++ sp) 518) :: R ∧ l.Perm its ∧ ∀ p q, p < q → q < its.length → us l p ≤ us l q) := by
 refine aB func410 ntmps410 rfl rfl ?_
 refine aa (ae (a7 rfl (ag rfl) (ac (a8 (aa (ae (a7 rfl (ag rfl) (ac (a8 (aP ?_))))))))))
 refine bX (fun _ : Unit => True) (fun _ => [(0, .slice (some ⟨g, 0, none⟩) its.length c), (1, .int .i64 0), (2, .int .i64 (its.length : Nat)), (3, .int .i64 k), (4, .func (.func 354) #[] #[])]) (fun _ => pt g (am (its.flatMap bD ++ sp) 518) :: R) (fun _ => 0) () ?_ ?_ ?_ ?_
 trivial
 · repeat (first | exact aQ | refine aO rfl ?_)
 exact inferInstance
 intro u hu
 refine aP (aa (ae (a7 rfl (ab rfl) (a7 rfl (ab rfl) ?_))))
 refine a7 rfl (d7 rfl rfl (by rw [aT (by omega)]; omega : IntKind.wrap .i64 ((its.length : Int) - 0) = ((its.length : Nat) : Int))) ?_
 refine a7 rfl (ag rfl) (ac (a8 (aa (aa (ae (a7 rfl (ab rfl) (a7 rfl (iU rfl rfl) (ac (a8 ?_)))))))))
 refine au rfl ?_ ?_
 intro c3
 refine aa (ae (a7 rfl (ab rfl) (a7 rfl (ab rfl) (a7 rfl (ab rfl) (a7 rfl (ab rfl) ?_)))))
 refine ah rfl (aF call423 rfl (CU W0 _ g c its sp (by omega) h0)) ?_
 rintro _ B_ ⟨l, rfl, hB_, hp, hS⟩
 obtain rfl := hB_.symm
 refine ac (a8 (ao (aJ (be (aJ (be (ak (.inl rfl) .nil ?_)))))))
 exact ⟨_, ⟨l, rfl, rfl, hp, hS⟩, inferInstance⟩
 intro c3
 omega
theorem wm (W0 : World) (R : List HP) (a : Option Addr) (c : Nat) (k : Int) :
    ax Tryz.prog W0 410 [.slice a 0 c, .int .i64 0, .int .i64 0, .int .i64 k, .func (.func 354) #[] #[]] R (fun v B => v = .tuple #[] ∧ B = R) := by
 have hi : ax Tryz.prog W0 423 [.slice a 0 c, .int .i64 0, .int .i64 0, .func (.func 354) #[] #[]] R (fun v B => v = .tuple #[] ∧ B = R) := by
  refine aB func423 ntmps423 rfl rfl ?_
  refine aa (ae (a7 rfl (ab rfl) ?_))
  refine a7 rfl (bz rfl rfl (aT (by omega))) ?_
  refine a7 rfl (ag rfl) (ac (a8 (aP ?_)))
  refine bX (fun _ : Unit => True) (fun _ => [(2, .int .i64 0), (8, .int .i64 1)]) (fun _ => R) (fun _ => 0) () ?_ ?_ ?_ ?_
  trivial
  · repeat (first | exact aQ | refine aO rfl ?_)
  exact inferInstance
  intro u hu
  refine aa (aa (ae (a7 rfl (ab rfl) (a7 rfl (ab rfl) (a7 rfl (aV rfl rfl) (ac (a8 ?_)))))))
  refine au rfl ?_ ?_
  intro c1
  omega
  intro c1
  refine bF (aR (aR (bH (ak (.inr rfl) .nil ?_))))
  exact ⟨_, ⟨rfl, rfl⟩, inferInstance⟩
 refine aB func410 ntmps410 rfl rfl ?_
 refine aa (ae (a7 rfl (ag rfl) (ac (a8 (aa (ae (a7 rfl (ag rfl) (ac (a8 (aP ?_))))))))))
 refine bX (fun _ : Unit => True) (fun _ => [(0, .slice a 0 c), (1, .int .i64 0), (2, .int .i64 0), (3, .int .i64 k), (4, .func (.func 354) #[] #[])]) (fun _ => R) (fun _ => 0) () ?_ ?_ ?_ ?_
 trivial
 · repeat (first | exact aQ | refine aO rfl ?_)
 exact inferInstance
 intro u hu
 refine aP (aa (ae (a7 rfl (ab rfl) (a7 rfl (ab rfl) ?_))))
 refine a7 rfl (d7 rfl rfl (aT (by omega))) ?_
 refine a7 rfl (ag rfl) (ac (a8 (aa (aa (ae (a7 rfl (ab rfl) (a7 rfl (iU rfl rfl) (ac (a8 ?_)))))))))
 refine au rfl ?_ ?_
 intro c3
 refine aa (ae (a7 rfl (ab rfl) (a7 rfl (ab rfl) (a7 rfl (ab rfl) (a7 rfl (ab rfl) (ah rfl (aS call423 rfl (hi)) ?_))))))
 rintro _ B_ ⟨rfl, hB_⟩
 obtain rfl := hB_.symm
 refine ac (a8 (ao (aJ (be (aJ (be (ak (.inl rfl) .nil ?_)))))))
 exact ⟨_, ⟨rfl, rfl⟩, inferInstance⟩
 intro c3
 omega
theorem CX (W0 : World) (R : List HP) (a : Option Addr) (c : Nat) (its : List It) (hN : its.length ≤ 12) :
    ax Tryz.prog W0 385 [.slice a its.length c, .func (.func 354) #[] #[]]
      (osl 518 6 (.slice a its.length c) (its.flatMap bD) :: R)
      (fun v B => ∃ l : List It, v = .tuple #[] ∧ B = osl 518 6 (.slice a its.length c) (l.flatMap bD) :: R ∧ l.Perm its ∧ ∀ p q, p < q → q < its.length → us l p ≤ us l q) := by
 refine nS (fun h1 h2 => ?_) fun g n cap sp h1 h2 h3 h4 h5 => ?_
 have h0 : its.length = 0 := by have := cV g6 its; rw [h2] at this; simp at this; omega
 obtain rfl : its = [] := List.eq_nil_of_length_eq_zero h0
 cases h1
 refine aB xJ ntmps385 rfl rfl ?_
 refine aa (ae (a7 rfl (ab rfl) (a7 rfl (aY cM rfl) (a7 rfl (ag rfl) (ac (a8 (ae (a7 rfl (ab rfl) (a7 rfl (ab rfl) (a7 rfl (ab rfl) (a7 rfl (kR dF xK rfl (show IntKind.wrap .u64 ((0 : Nat) : Int) = ((0 : Nat) : Int) from rfl)) ?_)))))))))))
 refine ah rfl (aS xL rfl (rS 0 (by decide))) ?_
 rintro _ B_ ⟨r, rfl, hB_⟩
 obtain rfl := hB_.symm
 refine a7 rfl (ab rfl) (ah rfl (aS xM rfl (wm W0 _ none 0 r)) ?_)
 rintro _ B_ ⟨rfl, hB_⟩
 obtain rfl := hB_.symm
 refine ac (ak (.inr rfl) .nil ?_)
 exact ⟨_, ⟨[], rfl, rfl, List.Perm.refl _, fun p q _ hq => by simp at hq⟩, dZ⟩
 cases h1
 by_cases hz : its.length = 0
 obtain rfl : its = [] := List.eq_nil_of_length_eq_zero hz
 refine aB xJ ntmps385 rfl rfl ?_
 refine aa (ae (a7 rfl (ab rfl) (a7 rfl (aY cM rfl) (a7 rfl (ag rfl) (ac (a8 (ae (a7 rfl (ab rfl) (a7 rfl (ab rfl) (a7 rfl (ab rfl) (a7 rfl (kR dF xK rfl (show IntKind.wrap .u64 ((0 : Nat) : Int) = ((0 : Nat) : Int) from rfl)) ?_)))))))))))
 refine ah rfl (aS xL rfl (rS 0 (by decide))) ?_
 rintro _ B_ ⟨r, rfl, hB_⟩
 obtain rfl := hB_.symm
 refine a7 rfl (ab rfl) (ah rfl (aS xM rfl (wm W0 _ _ c r)) ?_)
 rintro _ B_ ⟨rfl, hB_⟩
 obtain rfl := hB_.symm
 refine ac (ak (.inr rfl) .nil ?_)
 exact ⟨_, ⟨[], rfl, rfl, List.Perm.refl _, fun p q _ hq => by simp at hq⟩, e7 h2 h3 h4 h5⟩
 skip
 refine aB xJ ntmps385 rfl rfl ?_
 refine aa (ae (a7 rfl (ab rfl) (a7 rfl (aY cM rfl) (a7 rfl (ag rfl) (ac (a8 (ae (a7 rfl (ab rfl) (a7 rfl (ab rfl) (a7 rfl (ab rfl) ?_))))))))))
 refine a7 rfl (kR dF xK rfl (show IntKind.wrap .u64 ((its.length : Nat) : Int) = ((its.length : Nat) : Int) from by simp only [IntKind.wrap, IntKind.bits, IntKind.signed]; simp; omega)) ?_
 refine ah rfl (aS xL rfl (rS its.length (by omega))) ?_
 rintro _ B_ ⟨r, rfl, hB_⟩
 obtain rfl := hB_.symm
 refine a7 rfl (ab rfl) ?_
 refine ah rfl (aF xM rfl (CW W0 _ g c its sp r hN (by omega))) ?_
 rintro _ B_ ⟨l, rfl, hB_, hp, hS⟩
 obtain rfl := hB_.symm
 have hll := hp.length_eq
 refine ac (ak (.inr rfl) .nil ?_)
 exact ⟨_, ⟨l, rfl, rfl, hp, hS⟩, e7 h2 h3 (by rw [cV g6, hll]) (by rw [← h5]; simp only [List.length_append, cV g6, hll])⟩
theorem CY (W0 : World) (R : List HP) (bs c : Nat) (a : Option Addr) (its : List It) (hN : its.length ≤ 12) :
    ax Tryz.prog W0 352 [.func (.func 386) #[] #[.pointer (some ⟨bs, 0, none⟩)], .func (.func 354) #[] #[]]
      (pt bs (am [.slice a its.length c] 515) :: osl 518 6 (.slice a its.length c) (its.flatMap bD) :: R)
      (fun v B => ∃ (l : List It) (a' : Option Addr) (c' : Nat), v = .slice a' l.length c' ∧ B = osl 518 6 (.slice a' l.length c') (l.flatMap bD) :: osl 518 6 (.slice a its.length c) (its.flatMap bD) :: R ∧ l.Perm its ∧ ∀ p q, p < q → q < its.length → us l p ≤ us l q) := by
 refine aB func352 ntmps352 rfl rfl ?_
 refine aa (ae (a7 rfl (ag rfl) (ac (a8 (aa (ae (a7 rfl (ab rfl) ?_)))))))
 refine ah rfl (fJ call384 rfl (CR W0 _ bs c a its (by omega))) ?_
 rintro _ B_ ⟨a2, c2, rfl, hB_⟩
 obtain rfl := hB_.symm
 refine a7 rfl (ag rfl) (ac (a8 (aa (ae (a7 rfl (ab rfl) (a7 rfl (ab rfl) (ah rfl (aF call385 rfl (CX W0 _ a2 c2 its hN)) ?_)))))))
 rintro _ B_ ⟨l, rfl, hB_, hp, hS⟩
 obtain rfl := hB_.symm
 have hll := hp.length_eq
 refine ac (a8 (aa (ae (a7 rfl (ab rfl) (a7 rfl (ag rfl) (ac (a8 (ao (ak (.inl rfl) (.cons (aj rfl) .nil) ?_)))))))))
 rw [← hll] at hS ⊢
 exact ⟨_, ⟨l, a2, c2, rfl, rfl, hp, hS⟩, inferInstance⟩
theorem wn : ∀ {l L : List It}, l.Perm L → (∀ p q, p < q → q < l.length → us l p ≤ us l q) → L.Pairwise (fun x y => x.u < y.u) → l = L
 | [], L, hp, _, _ => hp.nil_eq
 | x :: l, [], hp, _, _ => by have := hp.length_eq; simp at this
 | x :: l, y :: L, hp, hs, hw => by
  have h1 : ∀ z ∈ l, x.u ≤ z.u := fun z hz => by
   obtain ⟨i, hi, rfl⟩ := List.mem_iff_getElem.1 hz
   have := hs 0 (i + 1) (by omega) (by simp; omega)
   simpa [us, hi] using this
  obtain ⟨hw1, hw2⟩ := List.pairwise_cons.1 hw
  have hx : x ∈ y :: L := hp.subset (List.mem_cons_self ..)
  have hy : y ∈ x :: l := hp.symm.subset (List.mem_cons_self ..)
  have e : x = y := by
   rcases List.mem_cons.1 hx with h | h
   exact h
   rcases List.mem_cons.1 hy with h' | h'
   exact h'.symm
   have := hw1 x h; have := h1 y h'; omega
  subst e
  rw [wn (hp.cons_inv) (fun p q hpq hq => by
   have := hs (p + 1) (q + 1) (by omega) (by simp; omega)
   simpa [us] using this) hw2]
def rT (x : It) : List Value := [.int .i64 x.kr, .int .i64 x.kp, .int .i64 x.ep, .int .i64 x.ef, .int .i64 x.er]
theorem CZ (W0 : World) (R : List HP) (b : Nat) (its : List It) (rm nw : Value) (now : Nat) (L : List It) (hR : Rep its now L) (hN : L.length ≤ 12) :
    ax Tryz.prog W0 282 [.pointer (some ⟨b, 0, none⟩)] (bY b (its, [rm, nw, .bool true]) :: R)
      (fun v B => ∃ a c, v = .slice a L.length c ∧ B = osl 306 5 (.slice a L.length c) (L.flatMap rT) :: bY b (its, [rm, nw, .bool true]) :: R) := by
 have hlen := hR.length
 refine aB func282 ntmps282 rfl rfl ?_
 refine aa (ae (a7 rfl (ag rfl) (ac (a8 (aa (aa (ae (a7 rfl (ab rfl) (ah rfl (aF call351 rfl (vo W0 _ b its rm nw)) ?_)))))))))
 rintro _ B_ ⟨rfl, hB_⟩
 obtain rfl := hB_.symm
 refine ac (a8 ?_)
 refine au rfl ?_ ?_
 intro c1
 exact absurd c1 (by decide)
 intro c1
 refine aA (a8 (aa ?_))
 refine Bo (b := b) fun a0 c0 => ?_
 refine ae (a7 rfl (ab rfl) (a7 rfl (aI rfl) ?_))
 refine a7 rfl (ar rfl pN rfl sD rfl (by first | exact Nat.zero_add _ | rfl)) ?_
 refine a7 rfl (ar rfl fG rfl eI rfl (by first | exact Nat.zero_add _ | rfl)) ?_
 refine a7 rfl (ap fu rfl (az rfl)) ?_
 refine ah rfl (aS call353 rfl (CL W0 _ a0 its.length c0)) ?_
 rintro _ B_ ⟨bs, rfl, hB_⟩
 obtain rfl := hB_.symm
 refine ah rfl (fJ call352 rfl (CY W0 _ bs c0 a0 its (by omega))) ?_
 rintro _ B_ ⟨l, a1, c1, rfl, hB_, hp, hS⟩
 obtain rfl := hB_.symm
 have hll := hp.length_eq
 obtain rfl : l = L := wn (hp.trans hR.perm) (fun p q h1 h2 => hS p q h1 (by omega)) hR.sort
 refine gm (B := bY b (its, [rm, nw, .bool true]) :: osl 518 6 (.slice a1 l.length c1) (l.flatMap bD) :: R) (lE rfl) ?_
 refine a7 rfl (ag rfl) (ac (a8 (aa (ae (a7 rfl (ag rfl) (ac (a8 (aa (aa (ae (a7 rfl (ab rfl) (a7 rfl (aY cM rfl) (a7 rfl (ab rfl) (ac (a8 (aP ?_))))))))))))))))
 refine bX (fun X : Nat × Option Addr × Nat => X.1 ≤ l.length) (fun X => [(4, .slice X.2.1 X.1 X.2.2), (16, .slice a1 l.length c1), (17, .int .i64 (l.length : Nat)), (18, .int .i64 X.1)]) (fun X => osl 306 5 (.slice X.2.1 X.1 X.2.2) ((l.take X.1).flatMap rT) :: bY b (its, [rm, nw, .bool true]) :: osl 518 6 (.slice a1 l.length c1) (l.flatMap bD) :: R) (fun X => l.length - X.1) (0, none, 0) ?_ ?_ ?_ ?_
 exact Nat.zero_le _
 · repeat (first | exact aQ | refine aO rfl ?_)
 exact dZ
 intro ⟨i, a2, c2⟩ hi
 dsimp only at hi ⊢
 refine aa (ae (a7 rfl (aV rfl rfl) (ac (a8 (aa ?_)))))
 refine au rfl ?_ ?_
 intro c6
 have hi1 : i < l.length := by omega
 refine kb (E := 518) (sz := 6) (a := a1) (n := l.length) (c := c1) bD l g6 (by decide) rfl (fun hs => ?_)
 obtain ⟨g, o, rfl, hc⟩ := hs.at_ hi1
 have htk : l.take (i + 1) = l.take i ++ [l[i]] := List.take_succ_eq_append_getElem hi1
 refine aA (a8 (aa (aP (aa (ae ?_)))))
 refine a7 rfl (bK cM bG rfl rfl rfl hi1 (by first | exact Nat.zero_add _ | rfl)) ?_
 refine a7 rfl (bN ed bG rfl hc rfl) ?_
 refine ah rfl (cH kK) ?_
 rintro _ _ ⟨bx, rfl, rfl⟩
 refine bc (cD bG rfl rfl rfl rfl rfl) ?_
 rintro _ _ rfl
 refine ac (a8 (ka (b := bx) (o' := am [.int .i64 l[i].kr, .int .i64 l[i].kp, .int .i64 l[i].ep, .int .i64 l[i].ef, .int .i64 l[i].er, .int .i64 l[i].u] 518) rfl ?_))
 refine ae (a7 rfl (ab rfl) ?_)
 refine a7 rfl (ar rfl jb rfl jV rfl (by first | exact Nat.zero_add _ | rfl)) ?_
 refine a7 rfl (qe isAgg306 jV rfl TakeL.eq rfl) ?_
 refine ah rfl (fM nB jV EK rfl (eB rfl rfl fK) rfl (by decide) (by decide) (by decide)) ?_
 rintro _ _ ⟨b2, rfl, rfl⟩
 refine ah rfl (eg (sz := 5) (by_ := 40) (info := Tryz.t306) nB (by kernel_rfl) rfl rfl rfl rfl (by decide) rfl rfl dK rfl rfl (by simp only [maxLen]; omega) (by omega)) ?_
 rintro _ _ ⟨a3, c3, rfl, rfl⟩
 refine a7 rfl (ag rfl) (ac (bw (a8 (ae ?_))))
 refine a7 rfl (bz rfl rfl (by first | exact aT (by omega) | rfl)) ?_
 refine a7 rfl (ab rfl) (ac (a8 ?_))
 refine cg (i + 1, a3, c3) ?_ ?_ ?_ ?_
 omega
 omega
 · repeat (first | exact aQ | refine aO rfl ?_)
 dsimp only
 rw [htk, List.flatMap_append]
 show Ent _ (osl 306 5 (.slice a3 (i + 1) c3) ((l.take i).flatMap rT ++ [[.int .i64 l[i].kr, .int .i64 l[i].kp, .int .i64 l[i].ep, .int .i64 l[i].ef, .int .i64 l[i].er]].flatten) :: _)
 exact inferInstance
 intro c6
 refine bF (aR (aR (bH (a8 (aa (ae (a7 rfl (ab rfl) (a7 rfl (ag rfl) (ac (a8 (ao (ak (.inl rfl) (.cons (aj rfl) .nil) ?_))))))))))))
 obtain rfl : i = l.length := by omega
 rw [List.take_of_length_le (Nat.le_refl _)]
 exact ⟨_, ⟨a2, c2, rfl, rfl⟩, inferInstance⟩
theorem D1 (W0 : World) (R : List HP) (b : Nat) (L : List Ln) (hl : L.length ≤ 1000) (page : Int) :
    ax Tryz.prog W0 349 [.pointer (some ⟨b, 0, none⟩), .int .i64 page] (e9 b L :: R)
      (fun v B => ∃ a c, v = .slice a (L.filter fun x => x.thr page).length c ∧ B = osl 302 2 (.slice a (L.filter fun x => x.thr page).length c) ((L.filter fun x => x.thr page).flatMap lN) :: e9 b (L.filter fun x => !x.thr page) :: R) := by
 refine aB func349 ntmps349 rfl rfl ?_
 refine aa (ae (ah rfl (eW rfl rfl) ?_))
 rintro _ _ ⟨bp, rfl, rfl⟩
 refine a7 rfl (ag rfl) (ac (a8 (aa (aa (ae (a7 rfl (ab rfl) (ah rfl (aF call350 rfl (wa b L)) ?_)))))))
 rintro _ B_ ⟨rfl, hB_⟩
 obtain rfl := hB_.symm
 refine ac (a8 ?_)
 refine au rfl ?_ ?_
 intro c1
 exact absurd c1 (by decide)
 intro c1
 refine aA (a8 (aa (ae (a7 rfl (ab rfl) (a7 rfl (dz rfl rfl) ?_)))))
 refine ah rfl (fc (B := e9 b L :: kH 0 (bC [pt bp (am [.int .i64 page] 3)]) :: R) inferInstance (aS call382 rfl (CK W0 _ b L hl 383 [.pointer (some ⟨bp, 0, none⟩)] _ _ (CJ W0 bp page)))) ?_
 rintro _ B_ ⟨a, c, rfl, hB_⟩
 obtain rfl := hB_.symm
 refine a7 rfl (ag rfl) (ac (a8 (ao (ak (.inl rfl) (.cons (aj rfl) .nil) ?_))))
 exact ⟨_, ⟨a, c, rfl, rfl⟩, inferInstance⟩
def mY (p : Int → Bool) (l : List Int) : List Int := l.filter (fun x => !p x)
theorem wo {p : Int → Bool} {l : List Int} {j : Nat} (h : j < l.length) : mY p (l.take (j + 1)) = mY p (l.take j) ++ (if p (l.getD j 0) then [] else [l.getD j 0]) := by
 rw [List.take_succ_eq_append_getElem h, mY, List.filter_append, show l.getD j 0 = l[j] by simp [List.getD, h]]
 cases hp : p l[j] <;> simp [mY, hp]
structure DelN (p : Int → Bool) (its l : List Int) (i j : Nat) : Prop where
  len : l.length = its.length
  ij : i < j
  jl : j ≤ its.length
  front : l.take i = mY p (its.take j)
  back : ∀ k, j ≤ k → l.getD k 0 = its.getD k 0
theorem DelN.skip {p : Int → Bool} {its l : List Int} {i j : Nat} (h : DelN p its l i j) (hj : j < its.length) (hp : p (l.getD j 0) = true) : DelN p its l i (j + 1) := by
 refine ⟨h.len, by have := h.ij; omega, by omega, ?_, fun k hk => h.back k (by omega)⟩
 rw [h.back j (Nat.le_refl _)] at hp
 rw [wo hj, hp, if_pos rfl, List.append_nil]; exact h.front
theorem DelN.move {p : Int → Bool} {its l : List Int} {i j : Nat} (h : DelN p its l i j) (hj : j < its.length) (hp : p (l.getD j 0) = false) : DelN p its (l.set i (l.getD j 0)) (i + 1) (j + 1) := by
 have hij := h.ij
 have hl := h.len
 have hb := h.back j (Nat.le_refl _)
 rw [hb] at hp ⊢
 refine ⟨by rw [List.length_set]; exact hl, by omega, by omega, ?_, fun k hk => ?_⟩
 rw [wo hj, hp, if_neg (by decide), ← h.front, List.take_succ_eq_append_getElem (by rw [List.length_set]; omega), List.getElem_set_self, List.take_set_of_le (Nat.le_refl _)]
 rw [← h.back k (by omega)]
 simp only [List.getD_eq_getElem?_getD]
 rw [List.getElem?_set_ne (by omega)]
@[reducible] def pi (x : Ln) : List Value := [.int .i64 x.k.1, .int .i64 x.k.2, .int .i64 x.e.1, .int .i64 x.e.2.1, .int .i64 x.e.2.2]
theorem D2 (W0 : World) (R : List HP) (b : Nat) (L : List Ln) (hl : L.length ≤ 1000) :
    ax Tryz.prog W0 281 [.pointer (some ⟨b, 0, none⟩)] (e9 b L :: R)
      (fun v B => ∃ a c, v = .slice a L.length c ∧ B = osl 306 5 (.slice a L.length c) (L.flatMap pi) :: e9 b L :: R) := by
 refine aB func281 ntmps281 rfl rfl ?_
 refine aa (ae (a7 rfl (ag rfl) (ac (a8 (aa (aa (ae (a7 rfl (ab rfl) (ah rfl (aF call350 rfl (wa b L)) ?_)))))))))
 rintro _ B_ ⟨rfl, hB_⟩
 obtain rfl := hB_.symm
 refine ac (a8 ?_)
 refine au rfl ?_ ?_
 intro c1
 exact absurd c1 (by decide)
 intro c1
 refine aA (a8 (aa (ae (a7 rfl (ag rfl) (ac (a8 (aa (aa ?_))))))))
 refine w0 (b := b) fun a c => ?_
 refine ae (a7 rfl (ab rfl) (a7 rfl (aI rfl) ?_))
 refine a7 rfl (ar rfl nq rfl nr rfl (by first | exact Nat.zero_add _ | rfl)) ?_
 refine a7 rfl (ap xG rfl (az rfl)) ?_
 refine a7 rfl (aY nz rfl) (a7 rfl (ab rfl) (ac (a8 (aP ?_))))
 refine bX (fun X : Nat × Option Addr × Nat => X.1 ≤ L.length) (fun X => [(3, .slice X.2.1 X.1 X.2.2), (11, .slice a L.length c), (12, .int .i64 (L.length : Nat)), (13, .int .i64 X.1)]) (fun X => osl 306 5 (.slice X.2.1 X.1 X.2.2) ((L.take X.1).flatMap pi) :: pt b (am [.slice a L.length c, .bool true] 512) :: osl 514 7 (.slice a L.length c) (L.flatMap ew) :: R) (fun X => L.length - X.1) (0, none, 0) ?_ ?_ ?_ ?_
 exact Nat.zero_le _
 · repeat (first | exact aQ | refine aO rfl ?_)
 exact dZ
 intro ⟨i, a0, c0⟩ hi
 dsimp only at hi ⊢
 refine aa (ae (a7 rfl (aV rfl rfl) (ac (a8 (aa ?_)))))
 refine au rfl ?_ ?_
 intro c5
 refine aA (a8 (aa (aP (aa ?_))))
 have hi1 : i < L.length := by omega
 refine kb (E := 514) (sz := 7) (a := a) (c := c) (n := L.length) ew L vL (by decide) rfl (fun hs => ?_)
 obtain ⟨g, o, hga, hc⟩ := hs.at_ hi1
 obtain ⟨x, hx⟩ : ∃ x, L[i] = x := ⟨_, rfl⟩
 have htk : L.take (i + 1) = L.take i ++ [x] := by rw [List.take_succ_eq_append_getElem hi1, hx]
 rw [hx] at hc
 refine ae ?_
 refine a7 rfl (fZ nz kO rfl hga rfl rfl hi1 (by first | exact Nat.zero_add _ | rfl)) ?_
 refine a7 rfl (bN xH kO rfl hc.weak rfl) ?_
 refine ah rfl (cH xI) ?_
 rintro _ _ ⟨bx, rfl, rfl⟩
 refine bc (cD kO rfl rfl rfl rfl rfl) ?_
 rintro _ _ rfl
 refine ac (a8 (ae (a7 rfl (ab rfl) ?_)))
 refine a7 rfl (ar rfl sP rfl jV rfl (by first | exact Nat.zero_add _ | rfl)) ?_
 refine a7 rfl (qe isAgg306 jV rfl TakeL.eq rfl) ?_
 refine ah rfl (fM nB jV EK rfl (eB rfl rfl fK) rfl (by decide) (by decide) (by decide)) ?_
 rintro _ _ ⟨bb, rfl, rfl⟩
 rw [show ([pi x] : List (List Value)).flatten = pi x from List.append_nil _]
 refine ah rfl (eg (sz := 5) (by_ := 40) (info := Tryz.t306) nB (by kernel_rfl) rfl rfl rfl rfl (by decide) rfl rfl dK rfl rfl (by simp only [maxLen]; omega) (by omega)) ?_
 rintro _ _ ⟨a3, c3, rfl, rfl⟩
 refine a7 rfl (ag rfl) (ac (bw (a8 (ae ?_))))
 refine a7 rfl (bz rfl rfl (by first | exact aT (by omega) | rfl)) ?_
 refine a7 rfl (ab rfl) (ac (a8 ?_))
 refine cg (i + 1, a3, c3) ?_ ?_ ?_ ?_
 omega
 omega
 · repeat (first | exact aQ | refine aO rfl ?_)
 dsimp only
 rw [htk, List.flatMap_append, List.flatMap_singleton]
 exact inferInstance
 intro c5
 refine bF (aR (aR (bH (a8 (aa (ae (a7 rfl (ab rfl) (a7 rfl (ag rfl) (ac (a8 (ao (ak (.inl rfl) (.cons (aj rfl) .nil) ?_))))))))))))
 obtain rfl : i = L.length := by omega
 rw [List.take_length]
 exact ⟨_, ⟨a0, c0, rfl, rfl⟩, Ent.cons (vZ (b := b) rfl)⟩
structure WS where
  on : Bool
  r : Int
  p : Int
  fault : Int
  root : Int
  leaf : Int
def lO : WS := ⟨false, 0, 0, 0, -1, -1⟩
def kz (fr : List aZ) (pg : List Pl) (va : Nat) (a : Int) (s : WS) : WS :=
  if et fr.length pg a (va / 1024) then { s with root := a, fault := rk (f2 fr pg a (va / 1024)) } else { s with fault := 3 }
def fm (fr : List aZ) (pg : List Pl) (va : Nat) (a : Int) : Int := if et fr.length pg a (va / 1024) then AO (f2 fr pg a (va / 1024)) else 0
def jF (fr : List aZ) (pg : List Pl) (va : Nat) (a : Int) : Bool := et fr.length pg a (va / 1024) && decide (rk (f2 fr pg a (va / 1024)) = 0)
def pj (fr : List aZ) (pg : List Pl) (va : Nat) (a : Int) (s : WS) : WS :=
  if et fr.length pg a (va / 64) then { s with leaf := a, on := v6 (f2 fr pg a (va / 64)), r := v7 (f2 fr pg a (va / 64)), p := v8 (f2 fr pg a (va / 64)), fault := rn (f2 fr pg a (va / 64)) } else { s with fault := 3 }
def jG (fr : List aZ) (pg : List Pl) (root : Int) (va : Nat) : Nat → WS × Int
 | 0 => (lO, root)
 | 1 => (if va < 16384 then lO else { lO with fault := 2 }, root)
 | 2 => (kz fr pg va root lO, fm fr pg va root)
 | _ => (pj fr pg va (fm fr pg va root) (kz fr pg va root lO), fm fr pg va root)
def hZ (fr : List aZ) (pg : List Pl) (root : Int) (va : Nat) : WS :=
  if va < 16384 then (if jF fr pg va root then (jG fr pg root va 3).1 else (jG fr pg root va 2).1) else (jG fr pg root va 1).1
def wq (pg : List Pl) (n : Int) : List Pl := if cr pg n then pg.set n.toNat (0, 0) else pg
theorem rU {fr : List aZ} {pg : List Pl} {va : Nat} {a : Int} : jF fr pg va a = true ↔ et fr.length pg a (va / 1024) = true ∧ rk (f2 fr pg a (va / 1024)) = 0 := by simp [jF]
structure WkOkM (fr : List aZ) (pg : List Pl) (root : Int) (va : Nat) : Prop where
  lim : va < 16384
  rb : jF fr pg va root = true
  lt : et fr.length pg (fm fr pg va root) (va / 64) = true
  eq : hZ fr pg root va = ⟨v6 (f2 fr pg (fm fr pg va root) (va / 64)), v7 (f2 fr pg (fm fr pg va root) (va / 64)), v8 (f2 fr pg (fm fr pg va root) (va / 64)), 0, root, fm fr pg va root⟩
  lf : rn (f2 fr pg (fm fr pg va root) (va / 64)) = 0
theorem wt {fr : List aZ} {pg : List Pl} {root : Int} {va : Nat} (h : (hZ fr pg root va).fault = 0) : WkOkM fr pg root va := by
 unfold hZ at h
 by_cases h1 : va < 16384
 rw [if_pos h1] at h
 by_cases h2 : jF fr pg va root = true
 rw [if_pos h2] at h
 have hb := rU.1 h2
 simp only [jG, pj] at h
 by_cases h3 : et fr.length pg (fm fr pg va root) (va / 64) = true
 rw [if_pos h3] at h
 refine ⟨h1, h2, h3, ?_, h⟩
 rw [hZ, if_pos h1, if_pos h2]
 simp only [jG, pj]
 rw [if_pos h3, kz, if_pos hb.1]
 simp only [lO]
 rw [show rn (f2 fr pg (fm fr pg va root) (va / 64)) = 0 from h]
 rw [if_neg h3] at h
 exact absurd h (by show ¬ (3 : Int) = 0; decide)
 rw [if_neg h2] at h
 simp only [jG, kz] at h
 by_cases h3 : et fr.length pg root (va / 1024) = true
 rw [if_pos h3] at h
 exact absurd (rU.2 ⟨h3, h⟩) h2
 rw [if_neg h3] at h
 exact absurd h (by show ¬ (3 : Int) = 0; decide)
 rw [if_neg h1] at h
 simp only [jG] at h
 rw [if_neg h1] at h
 exact absurd h (by show ¬ (2 : Int) = 0; decide)
def mZ (fr : List aZ) (pg : List Pl) (fr' : List aZ) (pg' : List Pl) (t : Int) : Prop := ∀ i, et fr'.length pg' t i = et fr.length pg t i ∧ f2 fr' pg' t i = f2 fr pg t i
theorem D3 {fr fr' : List aZ} {pg pg' : List Pl} {root : Int} {va : Nat} (h : WkOkM fr pg root va) (h1 : mZ fr pg fr' pg' root) (h2 : mZ fr pg fr' pg' (fm fr pg va root)) : hZ fr' pg' root va = hZ fr pg root va := by
 have ea : fm fr' pg' va root = fm fr pg va root := by unfold fm; rw [(h1 _).1, (h1 _).2]
 have eb : jF fr' pg' va root = jF fr pg va root := by unfold jF; rw [(h1 _).1, (h1 _).2]
 have es : ∀ s, kz fr' pg' va root s = kz fr pg va root s := fun s => by unfold kz; rw [(h1 _).1, (h1 _).2]
 rw [hZ, hZ, if_pos h.lim, if_pos h.lim, eb, h.rb, if_pos rfl, if_pos rfl]
 simp only [jG]
 rw [ea, es]
 unfold pj
 rw [(h2 _).1, (h2 _).2]
theorem wu {t i j : Nat} (h : j < 4) : (64 * t + 4 * (i % 16) + j) / 64 = t := by omega
theorem rV {fr : List aZ} {pg : List Pl} {t : Int} {i : Nat} (h : et fr.length pg t i = true) : cr pg t = true := by
 obtain ⟨h1, h2⟩ := AQ.1 h
 obtain ⟨k, rfl⟩ : ∃ k : Nat, t = (k : Int) := ⟨t.toNat, by omega⟩
 have := (AJ.1 h2).2 0 (by decide)
 rw [show jy (gB (k : Int) i + 0) = (k : Int) by rw [show gB (k : Int) i = 64 * k + 4 * (i % 16) from rfl, jy, wu (by decide)]] at this
 exact (AM.1 this).1
theorem D4 {fr fr' : List aZ} {pg pg' : List Pl} {t : Int} (hl : fr'.length = fr.length) (ht : cr pg' t = cr pg t) (hg : du pg' t = du pg t) (hd : cr pg t = true → ∀ o : Nat, o < 64 → qy fr' (du pg t).1 o 1 = qy fr (du pg t).1 o 1) : mZ fr pg fr' pg' t := by
 intro i
 by_cases h0 : 0 ≤ t ∧ t < 8
 · obtain ⟨k, rfl⟩ : ∃ k : Nat, t = (k : Int) := ⟨t.toNat, by omega⟩
   have hpa : gB (k : Int) i = 64 * k + 4 * (i % 16) := rfl
   have hpg : ∀ j, j < 4 → jy (gB (k : Int) i + j) = (k : Int) := fun j hj => by
    rw [hpa, jy, wu hj]
   have hown : io fr'.length pg' (gB (k : Int) i) 4 = io fr.length pg (gB (k : Int) i) 4 := by
    have e : ∀ j, j < 4 → ko fr'.length pg' (jy (gB (k : Int) i + j)) = ko fr.length pg (jy (gB (k : Int) i + j)) := fun j hj => by
     rw [hpg j hj, ko, ko, ht, hg, hl]
    unfold io
    congr 1
    apply decide_eq_decide.2
    unfold lz
    constructor
    intro q j hj; rw [← e j hj]; exact q j hj
    intro q j hj; rw [e j hj]; exact q j hj
   have hb : et fr'.length pg' (k : Int) i = et fr.length pg (k : Int) i := by unfold et; rw [hown]
   refine ⟨hb, ?_⟩
   unfold f2
   rw [hb]
   by_cases hbt : et fr.length pg (k : Int) i = true
   case neg => rw [if_neg hbt, if_neg hbt]
   have hr : mG fr' pg' (gB (k : Int) i) 4 = mG fr pg (gB (k : Int) i) 4 := by
    unfold mG
    apply List.map_congr_left
    intro j hj
    have hj := List.mem_range.1 hj
    unfold uY uX
    rw [hpg j hj, hg]
    exact hd (rV hbt) _ (Nat.mod_lt _ (by decide))
   rw [hr]
 have h1 : ∀ n p, et n p t i = false := fun n p => by unfold et; rw [decide_eq_false h0, Bool.false_and]
 refine ⟨by rw [h1, h1], ?_⟩
 unfold f2; rw [h1, h1, if_neg (by decide), if_neg (by decide)]
structure LOk (fr : List aZ) (pg : List Pl) (d : Nat) (x : Ln) : Prop where
  own : (0 ≤ x.rt ∧ x.rt < 8) ∧ (0 ≤ x.lf ∧ x.lf < 8)
  at_ : cr pg x.e.1 = true ∧ (du pg x.e.1).1 = x.e.2.1
  al : ∀ k, AP k = true → kt x.e.2.2 (v9 k) = true → mh pg x.e.1 k = 0
  r : 0 ≤ x.e.2.2 ∧ x.e.2.2 < 16
  wk : Nat.testBit d x.rt.toNat = false → Nat.testBit d x.lf.toNat = false → ∀ va, va < 16384 → ((va / 64 : Nat) : Int) = x.k.2 → WkOkM fr pg x.k.1 va ∧ x.k.1 = x.rt ∧ fm fr pg va x.k.1 = x.lf ∧ (hZ fr pg x.k.1 va).on = true ∧ (hZ fr pg x.k.1 va).p = x.e.1 ∧ ∀ c, c = 1 ∨ c = 2 ∨ c = 4 ∨ c = 8 → kt x.e.2.2 c = true → kt (hZ fr pg x.k.1 va).r c = true
theorem D5 {pg pg' : List Pl} {n : Int} (ht : cr pg n = true) (ht' : cr pg' n = true) (hg : du pg' n = du pg n) (k : Int) : mh pg' n k = mh pg n k := by
 rw [du, du, if_pos ht, if_pos ht'] at hg
 rw [mh, mh, ht, ht', if_pos rfl, if_pos rfl, hg]
theorem LOk.move {fr fr' : List aZ} {pg pg' : List Pl} {d d' : Nat} {x : Ln} (h : LOk fr pg d x) (ht : cr pg' x.e.1 = true) (hg : du pg' x.e.1 = du pg x.e.1)
    (hs : ∀ t, t = x.rt ∨ t = x.lf → Nat.testBit d' t.toNat = false → Nat.testBit d t.toNat = false ∧ (cr pg t = true → mZ fr pg fr' pg' t)) : LOk fr' pg' d' x := by
 refine ⟨h.own, ⟨ht, by rw [hg]; exact h.at_.2⟩, fun k hk hb => ?_, h.r, fun h1 h2 va hva hk => ?_⟩
 rw [D5 h.at_.1 ht hg]; exact h.al k hk hb
 obtain ⟨a1, b1⟩ := hs x.rt (.inl rfl) h1
 obtain ⟨a2, b2⟩ := hs x.lf (.inr rfl) h2
 obtain ⟨q1, q2, q3, q4, q5, q6⟩ := h.wk a1 a2 va hva hk
 have e := D3 q1 (by rw [q2]; exact b1 (by rw [← q2]; exact rV (rU.1 q1.rb).1)) (by rw [q3]; exact b2 (by rw [← q3]; exact rV q1.lt))
 have ef : (hZ fr' pg' x.k.1 va).fault = 0 := by rw [e, q1.eq]
 refine ⟨wt ef, q2, ?_, by rw [e]; exact q4, by rw [e]; exact q5, fun c hc hb => by rw [e]; exact q6 c hc hb⟩
 have e2 := (wt ef).eq
 rw [e, q1.eq] at e2
 have := congrArg WS.leaf e2
 rw [← q3]; exact this.symm
theorem LOk.nar {fr : List aZ} {pg : List Pl} {d : Nat} {x : Ln} (h : LOk fr pg d x) : LOk fr pg d x.nar := by
 have hb : ∀ c, c = 1 ∨ c = 2 ∨ c = 4 ∨ c = 8 → kt x.nar.e.2.2 c = true → kt x.e.2.2 c = true := fun c hc hq => by
  obtain ⟨n, hn⟩ : ∃ n : Nat, x.e.2.2 = (n : Int) := ⟨x.e.2.2.toNat, by have := h.r; omega⟩
  have hlt : n < 16 := by have := h.r; omega
  have e1 : x.nar.e.2.2 = ez x.e.2.2 := rfl
  rw [e1, hn] at hq
  rw [hn]
  have key : ∀ n : Nat, n < 16 → ∀ c : Int, c = 1 ∨ c = 2 ∨ c = 4 ∨ c = 8 → kt (ez (n : Int)) c = true → kt (n : Int) c = true := by
   intro n hn c hc
   have : n = 0 ∨ n = 1 ∨ n = 2 ∨ n = 3 ∨ n = 4 ∨ n = 5 ∨ n = 6 ∨ n = 7 ∨ n = 8 ∨ n = 9 ∨ n = 10 ∨ n = 11 ∨ n = 12 ∨ n = 13 ∨ n = 14 ∨ n = 15 := by omega
   rcases this with rfl | rfl | rfl | rfl | rfl | rfl | rfl | rfl | rfl | rfl | rfl | rfl | rfl | rfl | rfl | rfl <;> rcases hc with rfl | rfl | rfl | rfl <;> decide
  exact key n hlt c hc hq
 refine ⟨h.own, h.at_, fun k hk hq => h.al k hk (hb _ ?_ hq), ?_, fun h1 h2 va hva hk => ?_⟩
 unfold v9
 have := of_decide_eq_true hk
 rcases this with rfl | rfl | rfl
 exact .inr (.inr (.inl rfl))
 exact .inl rfl
 exact .inr (.inl rfl)
 show 0 ≤ ez x.e.2.2 ∧ ez x.e.2.2 < 16
 have := h.r
 unfold ez; split
 rename_i hw
 have := of_decide_eq_true hw
 omega
 exact h.r
 obtain ⟨q1, q2, q3, q4, q5, q6⟩ := h.wk h1 h2 va hva hk
 exact ⟨q1, q2, q3, q4, q5, fun c hc hq => q6 c hc (hb c hc hq)⟩
structure PlOk (n : Nat) (pg : List Pl) : Prop where
  rng : ∀ t, cr pg t = true → (du pg t).1 < (n : Int)
  inj : ∀ s t, cr pg s = true → cr pg t = true → (du pg s).1 = (du pg t).1 → s = t
structure MOk (fr : List aZ) (pg : List Pl) (d : Nat) (L : List Ln) (TL : List It) : Prop where
  F : dI fr
  dl : d < 4096
  P : Pgs pg
  pl : PlOk fr.length pg
  ti : TI L TL
  ln : ∀ x ∈ L, LOk fr pg d x
abbrev gG (pv bt bs : Nat) : Obj := am [.pointer (some ⟨pv, 0, none⟩), .pointer (some ⟨bt, 0, none⟩), .pointer (some ⟨bs, 0, none⟩)] 443
theorem D6 (bm pv bt bs : Nat) : ax Tryz.prog W0 279 [.pointer (some ⟨bm, 0, none⟩)] (pt bm (gG pv bt bs) :: R) (fun v B => v = .bool false ∧ B = pt bm (gG pv bt bs) :: R) := by
 refine aB func279 ntmps279 rfl rfl ?_
 refine aa (ae (a7 rfl (ag rfl) (ac (a8 (aa (ae (a7 rfl (ab rfl) (a7 rfl (dx underlying132 rfl rfl) (a7 rfl (ab rfl) ?_)))))))))
 refine bJ rfl rfl rfl ?_ ?_
 intro g1_3
 cases g1_3
 intro g1_3
 refine a7 rfl (ab rfl) (av rfl rfl (a7 rfl (aI rfl) (av rfl rfl ?_)))
 refine a7 rfl (ar rfl lX rfl kM rfl (by first | exact Nat.zero_add _ | rfl)) ?_
 refine av rfl rfl (a7 rfl (ap sR rfl (az rfl)) ?_)
 refine av rfl rfl (a7 rfl (dx xl rfl rfl) (a7 rfl (aX rfl rfl) (a7 rfl (ag rfl) (ac (a8 (ao (ak (.inl rfl) (.cons (aj rfl) .nil) ?_)))))))
 exact ⟨_, ⟨rfl, rfl⟩, inferInstance⟩
def iq (ks : List cY) (T : List It) : List It := ks.foldl (fun T k => fB k T) T
theorem D7 {ks : List cY} : ∀ {T : List It} {y : It}, y ∈ iq ks T → y ∈ T ∧ y.key ∉ ks := by
 induction ks with
 | nil => intro T y h; exact ⟨h, by simp⟩
 | cons k ks ih =>
  intro T y h
  obtain ⟨h1, h2⟩ := ih (T := fB k T) h
  obtain ⟨h3, h4⟩ := rL.1 h1
  refine ⟨h3, fun q => ?_⟩
  rcases List.mem_cons.1 q with q | q
  exact h4 q
  exact h2 q
theorem ww {ks : List cY} : ∀ {T : List It}, (iq ks T).length ≤ T.length := by
 induction ks with
 | nil => intro T; exact Nat.le_refl _
 | cons k ks ih => intro T; exact Nat.le_trans (ih (T := fB k T)) (Cs k T)
theorem D8 (ks : List cY) (k : cY) (T : List It) : iq (ks ++ [k]) T = fB k (iq ks T) := by simp [iq, List.foldl_append]
theorem D9 (W0 : World) (R : List HP) (bm pv bt bs : Nat) (its : List It) (tr tw : Value) (now : Nat) (T : List It) (hR : Rep its now T) (hT : T.length ≤ 100) (a : Option Addr) (c : Nat) (ks : List cY) (hk : ks.length ≤ 1000) :
    ax Tryz.prog W0 348 [.pointer (some ⟨bm, 0, none⟩), .slice a ks.length c] (pt bm (gG pv bt bs) :: bY bt (its, [tr, tw, .bool true]) :: osl 302 2 (.slice a ks.length c) (ks.flatMap fj) :: R)
      (fun v B => v = .tuple #[] ∧ ∃ its', B = pt bm (gG pv bt bs) :: bY bt (its', [tr, tw, .bool true]) :: osl 302 2 (.slice a ks.length c) (ks.flatMap fj) :: R ∧ Rep its' now (iq ks T)) := by
 refine aB func348 ntmps348 rfl rfl ?_
 refine aa (ae (a7 rfl (ab rfl) (a7 rfl (aY sQ rfl) (a7 rfl (ab rfl) (ac (a8 (aP ?_)))))))
 refine bX (fun X : Nat × List It => X.1 ≤ ks.length ∧ Rep X.2 now (iq (ks.take X.1) T)) (fun X => [(0, .pointer (some ⟨bm, 0, none⟩)), (6, .slice a ks.length c), (7, .int .i64 (ks.length : Nat)), (8, .int .i64 X.1)]) (fun X => pt bm (gG pv bt bs) :: bY bt (X.2, [tr, tw, .bool true]) :: osl 302 2 (.slice a ks.length c) (ks.flatMap fj) :: R) (fun X => ks.length - X.1) (0, its) ?_ ?_ ?_ ?_
 exact ⟨Nat.zero_le _, hR⟩
 · repeat (first | exact aQ | refine aO rfl ?_)
 exact inferInstance
 intro ⟨i, its1⟩ ⟨hi, hI⟩
 dsimp only at hi hI ⊢
 refine aa (ae (a7 rfl (aV rfl rfl) (ac (a8 (aa ?_)))))
 refine au rfl ?_ ?_
 intro c1
 refine aA (a8 (aa (aP (aa ?_))))
 have hi1 : i < ks.length := by omega
 refine kb (E := 302) (sz := 2) (a := a) (c := c) (n := ks.length) fj ks (fun _ => rfl) (by decide) rfl (fun hs => ?_)
 obtain ⟨g, o, hga, hc⟩ := hs.at_ hi1
 obtain ⟨k, hk1⟩ : ∃ k, ks[i] = k := ⟨_, rfl⟩
 have htk : ks.take (i + 1) = ks.take i ++ [k] := by rw [List.take_succ_eq_append_getElem hi1, hk1]
 have hdl := ww (ks := ks.take i) (T := T)
 rw [hk1] at hc
 refine ae ?_
 refine a7 rfl (fZ sQ gL rfl hga rfl rfl hi1 (by first | exact Nat.zero_add _ | rfl)) ?_
 refine a7 rfl (bN kL gL rfl hc.weak rfl) ?_
 refine ah rfl (cH EJ) ?_
 rintro _ _ ⟨bk, rfl, rfl⟩
 refine bc (cD gL rfl rfl rfl rfl rfl) ?_
 rintro _ _ rfl
 refine ac (a8 ?_)
 refine di [(bm, 0, _), (bk, 0, _)] 6 d4 rfl (aE (aE aH)) (fun hS => ?_)
 refine ai 0 rfl rfl (by kernel_rfl) (by kernel_rfl) (by kernel_rfl) rfl hS (ab rfl) ?_
 refine ai 1 rfl rfl (by kernel_rfl) (by kernel_rfl) (by kernel_rfl) rfl hS (aI rfl) ?_
 refine ai 2 rfl rfl (by kernel_rfl) (by kernel_rfl) (by kernel_rfl) rfl hS (ar rfl lX rfl sG rfl (by first | exact Nat.zero_add _ | rfl)) ?_
 refine ai 3 rfl rfl (by kernel_rfl) (by kernel_rfl) (by kernel_rfl) rfl hS (ap isAgg440 rfl (by first | exact aU (k := 0) rfl rfl | exact aU (k := 1) rfl rfl)) ?_
 refine ai 4 rfl rfl (by kernel_rfl) (by kernel_rfl) (by kernel_rfl) rfl hS (bN kL gL rfl (by first | exact ee (k := 0) rfl | exact ee (k := 1) rfl) rfl) ?_
 refine b0 5 (by kernel_rfl) rfl rfl (aF call381 rfl (Cu W0 _ bt its1 tr now (iq (ks.take i) T) k hI (by omega) tw)) rfl ?_; clear hS
 rintro _ B_ ⟨rfl, its2, hB_, hR2⟩
 subst hB_
 refine ⟨(aE (aE aH)), fun hS => ?_⟩
 refine cm (by kernel_rfl) ?_; clear hS
 refine bw (a8 (ae ?_))
 refine a7 rfl (bz rfl rfl (by first | exact aT (by omega) | rfl)) ?_
 refine a7 rfl (ab rfl) (ac (a8 ?_))
 refine cg (i + 1, its2) ?_ ?_ ?_ ?_
 exact ⟨by omega, by rw [htk, D8]; exact hR2⟩
 omega
 · repeat (first | exact aQ | refine aO rfl ?_)
 exact inferInstance
 intro c1
 refine bF (aR (aR (bH (ak (.inr rfl) .nil ?_))))
 obtain rfl : i = ks.length := by omega
 rw [List.take_length] at hI
 exact ⟨_, ⟨rfl, its1, rfl, hI⟩, inferInstance⟩
theorem Da (l : List Ln) : l.flatMap lN = (l.map Ln.k).flatMap fj := by rw [List.flatMap_map]
theorem MOk.drop {fr : List aZ} {pg : List Pl} {d : Nat} {L : List Ln} {T : List It} (h : MOk fr pg d L T) (p : Ln → Bool) : MOk fr pg d (L.filter fun x => !p x) (iq ((L.filter p).map Ln.k) T) :=
  ⟨h.F, h.dl, h.P, h.pl, h.ti.drop p fun y hy => by
 obtain ⟨h1, h2⟩ := D7 hy
 exact ⟨h1, fun x hx hf e => h2 (List.mem_map.2 ⟨x, List.mem_filter.2 ⟨hx, hf⟩, e.symm⟩)⟩, fun x hx => h.ln x (List.mem_filter.1 hx).1⟩
theorem Db (l : List Nat) : lB l = l.flatMap fun n => [mH n] := by
 induction l with
 | nil => rfl
 | cons n l ih => rw [List.flatMap_cons, ← ih]; rfl
theorem Dc (W0 : World) (R : List HP) (bm pv bt bs ps pm d : Nat) (its : List It) (tr tw : Value) (now room : Nat) (T : List It) (L : List Ln) (hR : Rep its now T) (hT : T.length ≤ room) (hr : room ≤ 4) (hd : d < 4096) (I : List Ln → List It → Prop) (hIl : ∀ L T, I L T → L.length ≤ 1000) (hId : ∀ L T p, I L T → I (L.filter fun x => !p x) (iq ((L.filter p).map Ln.k) T)) (h : I L T) :
    ax Tryz.prog W0 280 [.pointer (some ⟨bm, 0, none⟩)] (pt bm (gG pv bt bs) :: bY bt (its, [tr, tw, .bool true]) :: e9 bs L :: pt pv (dT ps pm d) :: R)
      (fun v B => v = .tuple #[] ∧ ∃ its' T' L', B = pt bm (gG pv bt bs) :: bY bt (its', [tr, tw, .bool true]) :: e9 bs L' :: pt pv (dT ps pm 0) :: R ∧ Rep its' now T' ∧ T'.length ≤ room ∧ I L' T' ∧ (∀ x ∈ L', ∀ n ∈ eR d 12, x.thr ((n : Nat) : Int) = false) ∧ (∀ x ∈ L', x ∈ L) ∧ (eR d 12 = [] → L' = L)) := by
 obtain ⟨ds, hds⟩ : ∃ l, eR d 12 = l := ⟨_, rfl⟩
 have hdl : ds.length ≤ 12 := by rw [← hds]; exact v1 d 12
 refine aB func280 ntmps280 rfl rfl ?_
 refine aa (ae (a7 rfl (ab rfl) (a7 rfl (aI rfl) ?_)))
 refine a7 rfl (ar rfl lX rfl kM rfl (by first | exact Nat.zero_add _ | rfl)) ?_
 refine a7 rfl (ap sR rfl (az rfl)) ?_
 refine ah rfl (aF call245 rfl (AK W0 _ pv ps pm d hd)) ?_
 rintro _ B_ ⟨ad, cd, rfl, hB_⟩
 subst hB_
 rw [hds]
 refine a7 rfl (aY dd rfl) (a7 rfl (ab rfl) (ac (a8 (aP ?_))))
 refine bX (fun X : Nat × List It × List It × List Ln => X.1 ≤ ds.length ∧ Rep X.2.1 now X.2.2.1 ∧ X.2.2.1.length ≤ room ∧ I X.2.2.2 X.2.2.1 ∧ (∀ x ∈ X.2.2.2, ∀ n ∈ ds.take X.1, x.thr ((n : Nat) : Int) = false) ∧ (∀ x ∈ X.2.2.2, x ∈ L) ∧ (X.1 = 0 → X.2.2.2 = L)) (fun X => [(0, .pointer (some ⟨bm, 0, none⟩)), (8, .slice ad ds.length cd), (9, .int .i64 (ds.length : Nat)), (10, .int .i64 X.1)]) (fun X => pt bm (gG pv bt bs) :: bY bt (X.2.1, [tr, tw, .bool true]) :: e9 bs X.2.2.2 :: pt pv (dT ps pm 0) :: osl 3 1 (.slice ad ds.length cd) (lB ds) :: R) (fun X => ds.length - X.1) (0, its, T, L) ?_ ?_ ?_ ?_
 exact ⟨Nat.zero_le _, hR, hT, h, fun x _ n hn => by simp at hn, fun x hx => hx, fun _ => rfl⟩
 · repeat (first | exact aQ | refine aO rfl ?_)
 exact inferInstance
 intro ⟨i, its1, T1, L1⟩ ⟨hi, hR1, hT1, h1, hc1, hs1, hz1⟩
 dsimp only at hi hR1 hT1 h1 hc1 hs1 hz1 ⊢
 refine aa (ae (a7 rfl (aV rfl rfl) (ac (a8 (aa ?_)))))
 refine au rfl ?_ ?_
 intro c1
 refine aA (a8 (aa (aP (aa ?_))))
 have hi1 : i < ds.length := by omega
 refine kb (E := 3) (sz := 1) (a := ad) (c := cd) (n := ds.length) (fun n => [mH n]) ds (fun _ => rfl) (by decide) (Db ds) (fun hs => ?_)
 obtain ⟨g, o, hga, hc⟩ := hs.at_ hi1
 obtain ⟨q, hq⟩ : ∃ q, ds[i] = q := ⟨_, rfl⟩
 have htk : ds.take (i + 1) = ds.take i ++ [q] := by rw [List.take_succ_eq_append_getElem hi1, hq]
 have hll := hIl L1 T1 h1
 obtain ⟨ks, hks⟩ : ∃ ks, (L1.filter fun x => x.thr (q : Int)).map Ln.k = ks := ⟨_, rfl⟩
 have hkl : (L1.filter fun x => x.thr (q : Int)).length = ks.length := by rw [← hks, List.length_map]
 have hkn : ks.length ≤ 1000 := by rw [← hkl]; exact Nat.le_trans (List.length_filter_le _ _) (by omega)
 have hdr := hId L1 T1 (fun x => x.thr (q : Int)) h1
 rw [hks] at hdr
 rw [hq] at hc
 refine ae ?_
 refine a7 rfl (fZ dd aC rfl hga rfl rfl hi1 (by first | exact Nat.zero_add _ | rfl)) ?_
 refine a7 rfl (ap aM rfl (cB.weak hc 0 _ rfl)) ?_
 refine a7 rfl (ag rfl) (ac (a8 (ae (a7 rfl (ab rfl) (a7 rfl (ab rfl) (a7 rfl (aI rfl) ?_))))))
 refine a7 rfl (ar rfl lX rfl sH rfl (by first | exact Nat.zero_add _ | rfl)) ?_
 refine a7 rfl (ap isAgg441 rfl (az rfl)) ?_
 refine a7 rfl (ab rfl) ?_
 refine ah rfl (aF call349 rfl (D1 W0 _ bs L1 (by omega) (q : Int))) ?_
 rintro _ B_ ⟨aw, cw, rfl, hB_⟩
 subst hB_
 rw [Da, hks, hkl]
 refine ah rfl (kV call348 rfl (D9 W0 _ bm pv bt bs its1 tr tw now T1 hR1 (by omega) aw cw ks hkn)) ?_
 rintro _ B_ ⟨rfl, its2, hB_, hR2⟩
 subst hB_
 refine ac (bw (a8 (ae ?_)))
 refine a7 rfl (bz rfl rfl (by first | exact aT (by omega) | rfl)) ?_
 refine a7 rfl (ab rfl) (ac (a8 ?_))
 refine cg (i + 1, its2, iq ks T1, L1.filter fun x => !x.thr (q : Int)) ?_ ?_ ?_ ?_
 refine ⟨by omega, hR2, Nat.le_trans ww hT1, hdr, fun x hx n hn => ?_, fun x hx => hs1 x (List.mem_filter.1 hx).1, fun q => absurd q (Nat.succ_ne_zero _)⟩
 obtain ⟨hx1, hx2⟩ := List.mem_filter.1 hx
 dsimp only at hn
 rw [htk] at hn
 rcases List.mem_append.1 hn with z | z
 exact hc1 x hx1 n z
 obtain rfl : n = q := by simpa using z
 simpa using hx2
 omega
 · repeat (first | exact aQ | refine aO rfl ?_)
 exact inferInstance
 intro c1
 refine bF (aR (aR (bH (ak (.inr rfl) .nil ?_))))
 obtain rfl : i = ds.length := by omega
 rw [List.take_length] at hc1
 exact ⟨_, ⟨rfl, its1, T1, L1, rfl, hR1, hT1, h1, hc1, hs1, fun q => hz1 (by rw [q]; rfl)⟩, inferInstance⟩
theorem TI.sub' {L : List Ln} {T T' : List It} (h : TI L T) (hs : ∀ y ∈ T', y ∈ T) : TI L T' := ⟨h.keys, h.len, h.nowr, fun y hy => h.sub y (hs y hy)⟩
section
variable {P : Program} {S : World → Prop} {N : FSz} {e : bq} {t : TypeId} {x y : Operand}
end
theorem MOk.fill {fr : List aZ} {pg : List Pl} {L : List Ln} {T T' : List It} (h : MOk fr pg 0 L T) {k : cY} {e : hQ} {r l : Int} (room now : Nat) (hz : LOk fr pg 0 ⟨k, e, r, l⟩)
    (hT : ∀ y ∈ T', y ∈ p6 room now k (g7 k e r l L).e (rQ (mX L r l) T) ∧ (p9 y.key (iM k e r l L)).isSome = true) : MOk fr pg 0 (iM k e r l L) T' := by
 refine ⟨h.F, by decide, h.P, h.pl, (h.ti.fill k e r l room now).sub' fun y hy => List.mem_filter.2 (hT y hy), fun x hx => ?_⟩
 rw [vW k e r l L h.ti.len] at hx
 rcases List.mem_append.1 hx with q | q
 obtain ⟨z, hz2, rfl⟩ := List.mem_map.1 q
 have := h.ln z (vV hz2).1
 unfold f7; split
 exact this.nar
 exact this
 obtain rfl : x = g7 k e r l L := by simpa using q
 rcases vX k e r l L with z | z
 rw [z]; exact hz
 rw [z]; exact hz.nar
theorem MOk.er {fr : List aZ} {pg : List Pl} {d : Nat} {L : List Ln} {T : List It} (h : MOk fr pg d L T) {its : List It} {now : Nat} (hR : Rep its now T) : ∀ y ∈ its, i64 y.er := fun y hy => by
 obtain ⟨x, hx, _, e⟩ := h.ti.sub y (hR.perm.mem_iff.1 hy)
 have := (h.ln x hx).r
 have e2 : y.er = x.e.2.2 := by rw [e]; rfl
 rw [e2]
 exact ⟨by omega, by omega⟩
theorem MOk.tl {fr : List aZ} {pg : List Pl} {d : Nat} {L : List Ln} {T T' : List It} (h : MOk fr pg d L T) (ht : TI L T') : MOk fr pg d L T' := ⟨h.F, h.dl, h.P, h.pl, ht, h.ln⟩
theorem wx {pg : List Pl} {n m : Nat} {p : Pl} (h : m ≠ n) : eY (pg.set n p) m = eY pg m := by
 unfold eY
 simp only [List.getD_eq_getElem?_getD]
 rw [List.getElem?_set_ne (fun e => h e.symm)]
theorem eG {pg : List Pl} {n : Nat} {t : Int} {p : Pl} (h : t ≠ (n : Int)) : cr (pg.set n p) t = cr pg t ∧ du (pg.set n p) t = du pg t := by
 have key : cr (pg.set n p) t = cr pg t := by
  unfold cr
  cases hp : gT t with
  | false => rfl
  | true =>
   obtain ⟨i, rfl, hi⟩ := mf hp
   rw [Int.toNat_natCast, wx (by omega)]
 refine ⟨key, ?_⟩
 unfold du
 rw [key]
 by_cases hth : cr pg t = true
 rw [if_pos hth, if_pos hth]
 simp only [cr, Bool.and_eq_true] at hth
 obtain ⟨i, rfl, hi⟩ := mf hth.1
 rw [Int.toNat_natCast, wx (by omega)]
 rw [if_neg hth, if_neg hth]
theorem Dd {fr : List aZ} {pg : List Pl} {n : Nat} {t : Int} {p : Pl} (h : t ≠ (n : Int)) : mZ fr pg fr (pg.set n p) t :=
  D4 rfl (eG h).1 (eG h).2 fun _ _ _ => rfl
theorem LOk.set {fr : List aZ} {pg : List Pl} {d n : Nat} {p : Pl} {x : Ln} (h : LOk fr pg d x) (h1 : x.e.1 ≠ (n : Int)) (h2 : ∀ t, t = x.rt ∨ t = x.lf → cr pg t = true → t ≠ (n : Int)) : LOk fr (pg.set n p) d x :=
  h.move ((eG h1).1.trans h.at_.1) (eG h1).2 fun t ht hb => ⟨hb, fun q => Dd (h2 t ht q)⟩
theorem De {pg : List Pl} {n : Nat} {p : Pl} (hl : pg.length = 12) (hn : n < 12) (hp : p ≠ (0, 0)) : cr (pg.set n p) (n : Int) = true ∧ du (pg.set n p) (n : Int) = p := by
 have h1 : eY (pg.set n p) n = p := by unfold eY; simp [List.getD, hl, hn]
 have h2 : cr (pg.set n p) (n : Int) = true := by
  unfold cr
  rw [Int.toNat_natCast, h1, Bool.and_eq_true]
  exact ⟨decide_eq_true (by omega), by simpa using hp⟩
 exact ⟨h2, by rw [du, if_pos h2, Int.toNat_natCast, h1]⟩
theorem PlOk.set {N n : Nat} {pg : List Pl} {p : Pl} (h : PlOk N pg) (hl : pg.length = 12) (hn : n < 12) (hp : p ≠ (0, 0)) (hN : p.1 < (N : Int)) (hd : ∀ t, cr pg t = true → (du pg t).1 ≠ p.1) : PlOk N (pg.set n p) := by
 have hg := De hl hn hp
 refine ⟨fun t ht => ?_, fun s t hs ht e => ?_⟩
 by_cases q : t = (n : Int)
 subst q; rw [hg.2]; exact hN
 rw [(eG q).1] at ht; rw [(eG q).2]; exact h.rng t ht
 by_cases q : s = (n : Int)
 by_cases r : t = (n : Int)
 rw [q, r]
 rw [q, hg.2, (eG r).2] at e
 rw [(eG r).1] at ht
 exact absurd e.symm (hd t ht)
 rw [(eG q).1] at hs
 by_cases r : t = (n : Int)
 rw [r, hg.2, (eG q).2] at e
 exact absurd e (hd s hs)
 rw [(eG r).1] at ht
 rw [(eG q).2, (eG r).2] at e
 exact h.inj s t hs ht e
theorem PlOk.drop {N n : Nat} {pg : List Pl} (h : PlOk N pg) (hl : pg.length = 12) : PlOk N (pg.set n (0, 0)) := by
 have hz : cr (pg.set n (0, 0)) (n : Int) = false := by
  unfold cr
  rw [Int.toNat_natCast]
  by_cases hn : n < 12
  have : eY (pg.set n (0, 0)) n = (0, 0) := by unfold eY; simp [List.getD, hl, hn]
  rw [this]; simp
  rw [show gT (n : Int) = false from decide_eq_false (by omega), Bool.false_and]
 have ne : ∀ t, cr (pg.set n (0, 0)) t = true → t ≠ (n : Int) := fun t ht e => by rw [e, hz] at ht; cases ht
 refine ⟨fun t ht => ?_, fun s t hs ht e => ?_⟩
 have q := ne t ht
 rw [(eG q).1] at ht; rw [(eG q).2]; exact h.rng t ht
 have q := ne s hs
 have r := ne t ht
 rw [(eG q).1] at hs
 rw [(eG r).1] at ht
 rw [(eG q).2, (eG r).2] at e
 exact h.inj s t hs ht e
theorem LOk.go {fr : List aZ} {pg : List Pl} {d n : Nat} {x : Ln} (h : LOk fr pg d x) (hg : wb (n : Int) x = false) : LOk fr (wq pg (n : Int)) d x := by
 unfold wq
 split
 rw [Int.toNat_natCast]
 simp only [wb, Bool.or_eq_false_iff, decide_eq_false_iff_not] at hg
 refine h.set hg.2 fun t ht _ e => ?_
 have h1 := hg.1
 rw [← Bool.not_eq_true, mW] at h1
 rcases ht with rfl | rfl
 exact h1 (.inl e)
 exact h1 (.inr e)
 exact h
section
variable {P : Program} {W0 : World} {A R : List HP} {sz : Nat}
theorem Df {E : TypeId} {m : Nat} {ys : List Value} {f : FuncId} {args : List Value} (h : ax P W0 f args A (fun v B => ∃ a c, v = .slice a m c ∧ B = osl E sz (.slice a m c) ys :: R)) :
    ax P W0 f args A (fun v B => ∃ a c, v = .slice a m c ∧ oe a ys ∧ B = osl E sz (.slice a m c) ys :: R) := fun w hO =>
  (h w hO).mono fun e w' ⟨v, B, h1, ⟨a, c, h2, h3⟩, h4⟩ => by
 refine ⟨v, B, h1, ⟨a, c, h2, ?_, h3⟩, h4⟩
 subst h3
 rcases (h4.tk (r := osl E sz) (b := .slice a m c)).osl with ⟨k1, k2, _⟩ | ⟨g, n', cap, sp, k1, _, _, _, _, _⟩
 cases k1; exact .inl ⟨rfl, k2⟩
 cases k1; exact .inr ⟨g, rfl⟩
end

-- the machine itself
theorem pn (hv : Nat) (c : Cfg) (ho : Nat) (a : Option Addr) (cap tb ib n : Nat) : ax Tryz.prog W0 59 [pV hv] (pt hv (eU c ho a cap tb ib n) :: R) (fun v B => v = .bool false ∧ B = pt hv (eU c ho a cap tb ib n) :: R) := by
 refine aB xN ntmps59 rfl rfl ?_
 refine aa (ae (a7 rfl (ag rfl) (ac (a8 (aa (ae (a7 rfl (ab rfl) (a7 rfl (dx sT rfl rfl) (a7 rfl (ab rfl) ?_)))))))))
 refine bJ rfl rfl rfl ?_ ?_
 intro g1_3
 cases g1_3
 intro g1_3
 refine a7 rfl (ab rfl) (av rfl rfl (a7 rfl (aI rfl) (av rfl rfl ?_)))
 refine a7 rfl (ar rfl kN rfl pS rfl (by first | exact Nat.zero_add _ | rfl)) ?_
 refine av rfl rfl (a7 rfl (ap pT rfl (az rfl)) ?_)
 refine av rfl rfl (a7 rfl (dx xO rfl rfl) (a7 rfl (aX rfl rfl) (a7 rfl (ag rfl) (ac (a8 (ao (ak (.inl rfl) (.cons (aj rfl) .nil) ?_)))))))
 exact ⟨_, ⟨rfl, rfl⟩, inferInstance⟩
theorem fC (hv : Nat) (c : Cfg) (ho : Nat) (a : Option Addr) (cap tb ib n : Nat) : ax Tryz.prog W0 26 [pV hv] (pt hv (eU c ho a cap tb ib n) :: R) (fun v B => v = pV ho ∧ B = pt hv (eU c ho a cap tb ib n) :: R) := by
 refine aB func26 ntmps26 rfl rfl ?_
 refine aa (ae (a7 rfl (ag rfl) (ac (a8 (aa (aa (ae (a7 rfl (ab rfl) (ah rfl (aF pU rfl (pn hv c ho a cap tb ib n)) ?_)))))))))
 rintro _ B_ ⟨rfl, hB_⟩
 obtain rfl := hB_.symm
 refine ac (a8 ?_)
 refine au rfl ?_ ?_
 intro c1
 exact absurd c1 (by decide)
 intro c1
 refine aA (a8 (aa (ae (a7 rfl (ab rfl) (a7 rfl (aI rfl) ?_)))))
 refine a7 rfl (ar rfl kN rfl xF rfl (by first | exact Nat.zero_add _ | rfl)) ?_
 refine a7 rfl (ap isAgg30 rfl (az rfl)) ?_
 refine a7 rfl (ag rfl) (ac (a8 (ao (ak (.inl rfl) (.cons (aj rfl) .nil) ?_))))
 exact ⟨_, ⟨rfl, rfl⟩, inferInstance⟩
theorem Dg (hv : Nat) (c : Cfg) (ho : Nat) (a : Option Addr) (cap tb ib n : Nat) : ax Tryz.prog W0 273 [pV hv] (pt hv (eU c ho a cap tb ib n) :: R) (fun v B => v = .int .i64 ((1 : Nat) : Int) ∧ B = pt hv (eU c ho a cap tb ib n) :: R) := by
 refine aB func273 ntmps273 rfl rfl ?_
 refine aa (ae (a7 rfl (ag rfl) (ac (a8 (aa (aa (ae (a7 rfl (ab rfl) (ah rfl (aF pU rfl (pn hv c ho a cap tb ib n)) ?_)))))))))
 rintro _ B_ ⟨rfl, hB_⟩
 obtain rfl := hB_.symm
 refine ac (a8 ?_)
 refine au rfl ?_ ?_
 intro c1
 exact absurd c1 (by decide)
 intro c1
 refine aA (a8 (aa (ae (a7 rfl (ab rfl) (a7 rfl (aI rfl) ?_)))))
 refine a7 rfl (ar rfl kN rfl pR rfl (by first | exact Nat.zero_add _ | rfl)) ?_
 refine a7 rfl (ap xP rfl (az rfl)) ?_
 refine a7 rfl (aY pQ rfl) (a7 rfl (ag rfl) (ac (a8 (ao (ak (.inl rfl) (.cons (aj rfl) .nil) ?_)))))
 exact ⟨_, ⟨rfl, rfl⟩, inferInstance⟩
theorem Dh (hv : Nat) (c : Cfg) (ho : Nat) (a : Option Addr) (cap tb ib n : Nat) : ax Tryz.prog W0 156 [pV hv] (pt hv (eU c ho a cap tb ib n) :: R) (fun v B => v = .int .i64 n ∧ B = pt hv (eU c ho a cap tb ib n) :: R) := by
 refine aB func156 ntmps156 rfl rfl ?_
 refine aa (ae (a7 rfl (ag rfl) (ac (a8 (aa (aa (ae (a7 rfl (ab rfl) (ah rfl (aF pU rfl (pn hv c ho a cap tb ib n)) ?_)))))))))
 rintro _ B_ ⟨rfl, hB_⟩
 obtain rfl := hB_.symm
 refine ac (a8 ?_)
 refine au rfl ?_ ?_
 intro c1
 exact absurd c1 (by decide)
 intro c1
 refine aA (a8 (aa (ae (a7 rfl (ab rfl) (a7 rfl (aI rfl) ?_)))))
 refine a7 rfl (ar rfl kN rfl aC rfl (by first | exact Nat.zero_add _ | rfl)) ?_
 refine a7 rfl (ap aM rfl (az rfl)) ?_
 refine a7 rfl (ag rfl) (ac (a8 (ao (ak (.inl rfl) (.cons (aj rfl) .nil) ?_))))
 exact ⟨_, ⟨rfl, rfl⟩, inferInstance⟩
theorem Di (hv : Nat) (c : Cfg) (ho : Nat) (a : Option Addr) (cap tb ib n g : Nat) : ax Tryz.prog W0 274 [pV hv, .int .i64 ((0 : Nat) : Int)] (pt hv (eU c ho a cap tb ib n) :: osl 50 1 (.slice a 1 cap) [pV g] :: R) (fun v B => v = pV g ∧ B = pt hv (eU c ho a cap tb ib n) :: osl 50 1 (.slice a 1 cap) [pV g] :: R) := by
 refine aB func274 ntmps274 rfl rfl ?_
 refine aa (ae (a7 rfl (ag rfl) (ac (a8 (aa (aa ?_))))))
 refine eC (r := osl 50 1) (b := .slice a 1 cap) (gq (fun h1 h2 => by cases h2) fun lg nn c2 sp h1 h2 h3 h4 h5 => ?_)
 cases h1
 refine ae (a7 rfl (ab rfl) (ah rfl (aF pU rfl (pn hv c ho (some ⟨lg, 0, none⟩) cap tb ib n)) ?_))
 rintro _ B_ ⟨rfl, hB_⟩
 obtain rfl := hB_.symm
 refine a7 rfl (ab rfl) ?_
 refine bJ rfl rfl rfl ?_ ?_
 intro g1_3
 exact absurd g1_3 (by decide)
 intro g1_3
 refine a7 rfl (ab rfl) (av rfl rfl (a7 rfl (aV rfl rfl) (a7 rfl (aX rfl rfl) (a7 rfl (ab rfl) ?_))))
 refine bJ rfl rfl rfl ?_ ?_
 intro g1_7
 omega
 intro g1_7
 refine a7 rfl (ab rfl) (av rfl rfl (a7 rfl (ab rfl) (av rfl rfl (a7 rfl (aI rfl) (av rfl rfl ?_)))))
 refine a7 rfl (ar rfl kN rfl pR rfl (by first | exact Nat.zero_add _ | rfl)) ?_
 refine av rfl rfl (a7 rfl (ap xP rfl (az rfl)) ?_)
 refine av rfl rfl (a7 rfl (aY pQ rfl) (av rfl rfl (a7 rfl (dr rfl rfl) (a7 rfl (aX rfl rfl) (ac (a8 ?_))))))
 refine au rfl ?_ ?_
 intro c1
 first | omega | (simp at c1)
 intro c1
 refine aA (a8 (aa (ae (a7 rfl (ab rfl) (a7 rfl (aI rfl) ?_)))))
 refine a7 rfl (ar rfl kN rfl pR rfl (by first | exact Nat.zero_add _ | rfl)) ?_
 refine a7 rfl (ap xP rfl (az rfl)) ?_
 refine a7 rfl (ab rfl) ?_
 refine a7 rfl (bK pQ sizeOf50 rfl rfl (i := 0) rfl (by decide) (by first | exact Nat.zero_add _ | rfl)) ?_
 refine a7 rfl (ap isAgg50 rfl (az rfl)) ?_
 refine a7 rfl (ag rfl) (ac (a8 (ao (ak (.inl rfl) (.cons (aj rfl) .nil) ?_))))
 exact ⟨_, ⟨rfl, rfl⟩, Ent.trans (B := osl 50 1 (.slice (some ⟨lg, 0, none⟩) 1 cap) [pV g] :: pt hv (eU c ho (some ⟨lg, 0, none⟩) cap tb ib n) :: R) (e7 h2 h3 rfl h5) inferInstance⟩
theorem wy (hb : Nat) (c : Cfg) (ps pb db qb gb : Nat) : ax Tryz.prog W0 23 [pV hb] (pt hb (am (dN c ps pb db qb gb) 68) :: R) (fun v B => v = pV db ∧ B = pt hb (am (dN c ps pb db qb gb) 68) :: R) := by
 refine aB func23 ntmps23 rfl rfl ?_
 refine aa (ae (a7 rfl (ag rfl) (ac (a8 (aa (aa (ae (a7 rfl (ab rfl) (ah rfl (aF nv rfl (lJ hb c ps pb db qb gb)) ?_)))))))))
 rintro _ B_ ⟨rfl, hB_⟩
 obtain rfl := hB_.symm
 refine ac (a8 ?_)
 refine au rfl ?_ ?_
 intro c1
 exact absurd c1 (by decide)
 intro c1
 refine aA (a8 (aa (ae (a7 rfl (ab rfl) (a7 rfl (aI rfl) ?_)))))
 refine a7 rfl (ar rfl gM rfl sK rfl (by first | exact Nat.zero_add _ | rfl)) ?_
 refine a7 rfl (ap isAgg65 rfl (az rfl)) ?_
 refine a7 rfl (ag rfl) (ac (a8 (ao (ak (.inl rfl) (.cons (aj rfl) .nil) ?_))))
 exact ⟨_, ⟨rfl, rfl⟩, inferInstance⟩
theorem Dj (hb : Nat) (c : Cfg) (ps pb db qb gb : Nat) : ax Tryz.prog W0 24 [pV hb] (pt hb (am (dN c ps pb db qb gb) 68) :: R) (fun v B => v = pV qb ∧ B = pt hb (am (dN c ps pb db qb gb) 68) :: R) := by
 refine aB func24 ntmps24 rfl rfl ?_
 refine aa (ae (a7 rfl (ag rfl) (ac (a8 (aa (aa (ae (a7 rfl (ab rfl) (ah rfl (aF nv rfl (lJ hb c ps pb db qb gb)) ?_)))))))))
 rintro _ B_ ⟨rfl, hB_⟩
 obtain rfl := hB_.symm
 refine ac (a8 ?_)
 refine au rfl ?_ ?_
 intro c1
 exact absurd c1 (by decide)
 intro c1
 refine aA (a8 (aa (ae (a7 rfl (ab rfl) (a7 rfl (aI rfl) ?_)))))
 refine a7 rfl (ar rfl gM rfl sM rfl (by first | exact Nat.zero_add _ | rfl)) ?_
 refine a7 rfl (ap isAgg66 rfl (az rfl)) ?_
 refine a7 rfl (ag rfl) (ac (a8 (ao (ak (.inl rfl) (.cons (aj rfl) .nil) ?_))))
 exact ⟨_, ⟨rfl, rfl⟩, inferInstance⟩
theorem Dl (hb : Nat) (c : Cfg) (ps pb db qb gb : Nat) : ax Tryz.prog W0 15 [pV hb] (pt hb (am (dN c ps pb db qb gb) 68) :: R) (fun v B => v = pV gb ∧ B = pt hb (am (dN c ps pb db qb gb) 68) :: R) := by
 refine aB func15 ntmps15 rfl rfl ?_
 refine aa (ae (a7 rfl (ag rfl) (ac (a8 (aa (aa (ae (a7 rfl (ab rfl) (ah rfl (aF nv rfl (lJ hb c ps pb db qb gb)) ?_)))))))))
 rintro _ B_ ⟨rfl, hB_⟩
 obtain rfl := hB_.symm
 refine ac (a8 ?_)
 refine au rfl ?_ ?_
 intro c1
 exact absurd c1 (by decide)
 intro c1
 refine aA (a8 (aa (ae (a7 rfl (ab rfl) (a7 rfl (aI rfl) ?_)))))
 refine a7 rfl (ar rfl gM rfl sN rfl (by first | exact Nat.zero_add _ | rfl)) ?_
 refine a7 rfl (ap isAgg55 rfl (az rfl)) ?_
 refine a7 rfl (ag rfl) (ac (a8 (ao (ak (.inl rfl) (.cons (aj rfl) .nil) ?_))))
 exact ⟨_, ⟨rfl, rfl⟩, inferInstance⟩
theorem Dm (hb : Nat) (c : Cfg) (ps pb db qb gb : Nat) : ax Tryz.prog W0 25 [pV hb] (pt hb (am (dN c ps pb db qb gb) 68) :: R) (fun v B => v = .agg (cF c).toArray ∧ B = pt hb (am (dN c ps pb db qb gb) 68) :: R) := by
  refine aB func25 ntmps25 rfl rfl ?_
  refine aa (ae (ah rfl (cH EL) ?_))
  rintro _ _ ⟨b1, rfl, rfl⟩
  refine ac (a8 (aa (aa (ae (a7 rfl (ab rfl) (ah rfl (aF nv rfl (lJ hb c ps pb db qb gb)) ?_))))))
  rintro _ B_ ⟨rfl, hB_⟩
  obtain rfl := hB_.symm
  refine ac (a8 ?_)
  refine au rfl ?_ ?_
  · intro c1
    exact absurd c1 (by decide)
  intro c1
  refine aA (a8 (aa (ae (a7 rfl (ab rfl) (a7 rfl (aI rfl) ?_)))))
  refine a7 rfl (ar rfl gM rfl ce rfl (by first | exact Nat.zero_add _ | rfl)) ?_
  refine a7 rfl (bN cR ce rfl (dt (vs := cF c) rfl rfl) rfl) ?_
  refine bc (cD ce rfl rfl rfl rfl rfl) ?_
  rintro _ _ rfl
  refine ac (a8 (ao (ak (.inl rfl) (.cons (ig cR ce rfl rfl) .nil) ?_)))
  exact ⟨_, ⟨rfl, rfl⟩, inferInstance⟩
-- a guest
section
variable (W0 : World) (R : List HP) (z : Gd) (c : Cfg) (pb : Nat)
abbrev gO (z : Gd) (c : Cfg) (pb : Nat) : Obj := am (vC z c pb) 142
theorem pp : ax Tryz.prog W0 43 [pV z.g] (pt z.g (gO z c pb) :: R) (fun v B => v = .bool false ∧ B = pt z.g (gO z c pb) :: R) := by
 refine aB func43 ntmps43 rfl rfl ?_
 refine aa (ae (a7 rfl (ag rfl) (ac (a8 (aa (ae (a7 rfl (ab rfl) (a7 rfl (dx underlying50 rfl rfl) (a7 rfl (ab rfl) ?_)))))))))
 refine bJ rfl rfl rfl ?_ ?_
 intro g1_3
 cases g1_3
 intro g1_3
 refine a7 rfl (ab rfl) (av rfl rfl (a7 rfl (aI rfl) (av rfl rfl ?_)))
 refine a7 rfl (ar rfl nt rfl kM rfl (by first | exact Nat.zero_add _ | rfl)) ?_
 refine av rfl rfl (a7 rfl (ap sR rfl (az rfl)) ?_)
 refine av rfl rfl (a7 rfl (dx xl rfl rfl) (a7 rfl (aX rfl rfl) (a7 rfl (ag rfl) (ac (a8 (ao (ak (.inl rfl) (.cons (aj rfl) .nil) ?_)))))))
 exact ⟨_, ⟨rfl, rfl⟩, inferInstance⟩
theorem rW : ax Tryz.prog W0 54 [pV z.g] (pt z.g (gO z c pb) :: R) (fun v B => v = pV z.pv ∧ B = pt z.g (gO z c pb) :: R) := by
 refine aB func54 ntmps54 rfl rfl ?_
 refine aa (ae (a7 rfl (ag rfl) (ac (a8 (aa (aa (ae (a7 rfl (ab rfl) (ah rfl (aF sW rfl (pp W0 _ z c pb)) ?_)))))))))
 rintro _ B_ ⟨rfl, hB_⟩
 obtain rfl := hB_.symm
 refine ac (a8 ?_)
 refine au rfl ?_ ?_
 intro c1
 exact absurd c1 (by decide)
 intro c1
 refine aA (a8 (aa (ae (a7 rfl (ab rfl) (a7 rfl (aI rfl) ?_)))))
 refine a7 rfl (ar rfl nt rfl kM rfl (by first | exact Nat.zero_add _ | rfl)) ?_
 refine a7 rfl (ap sR rfl (az rfl)) ?_
 refine a7 rfl (ag rfl) (ac (a8 (ao (ak (.inl rfl) (.cons (aj rfl) .nil) ?_))))
 exact ⟨_, ⟨rfl, rfl⟩, inferInstance⟩
theorem Dn : ax Tryz.prog W0 152 [pV z.g] (pt z.g (gO z c pb) :: R) (fun v B => v = pV z.x.m ∧ B = pt z.g (gO z c pb) :: R) := by
 refine aB func152 ntmps152 rfl rfl ?_
 refine aa (ae (a7 rfl (ag rfl) (ac (a8 (aa (aa (ae (a7 rfl (ab rfl) (ah rfl (aF sW rfl (pp W0 _ z c pb)) ?_)))))))))
 rintro _ B_ ⟨rfl, hB_⟩
 obtain rfl := hB_.symm
 refine ac (a8 ?_)
 refine au rfl ?_ ?_
 intro c1
 exact absurd c1 (by decide)
 intro c1
 refine aA (a8 (aa (ae (a7 rfl (ab rfl) (a7 rfl (aI rfl) ?_)))))
 refine a7 rfl (ar rfl nt rfl jW rfl (by first | exact Nat.zero_add _ | rfl)) ?_
 refine a7 rfl (ar rfl xz rfl xA rfl (by first | exact Nat.zero_add _ | rfl)) ?_
 refine a7 rfl (ap isAgg132 rfl (az rfl)) ?_
 refine a7 rfl (ag rfl) (ac (a8 (ao (ak (.inl rfl) (.cons (aj rfl) .nil) ?_))))
 exact ⟨_, ⟨rfl, rfl⟩, inferInstance⟩
theorem Do : ax Tryz.prog W0 172 [pV z.g] (pt z.g (gO z c pb) :: R) (fun v B => v = pV z.bx ∧ B = pt z.g (gO z c pb) :: R) := by
 refine aB func172 ntmps172 rfl rfl ?_
 refine aa (ae (a7 rfl (ag rfl) (ac (a8 (aa (aa (ae (a7 rfl (ab rfl) (ah rfl (aF sW rfl (pp W0 _ z c pb)) ?_)))))))))
 rintro _ B_ ⟨rfl, hB_⟩
 obtain rfl := hB_.symm
 refine ac (a8 ?_)
 refine au rfl ?_ ?_
 intro c1
 exact absurd c1 (by decide)
 intro c1
 refine aA (a8 (aa (ae (a7 rfl (ab rfl) (a7 rfl (aI rfl) ?_)))))
 refine a7 rfl (ar rfl nt rfl xC rfl (by first | exact Nat.zero_add _ | rfl)) ?_
 refine a7 rfl (ap isAgg140 rfl (az rfl)) ?_
 refine a7 rfl (ag rfl) (ac (a8 (ao (ak (.inl rfl) (.cons (aj rfl) .nil) ?_))))
 exact ⟨_, ⟨rfl, rfl⟩, inferInstance⟩
theorem wz : ax Tryz.prog W0 160 [pV z.g] (pt z.g (gO z c pb) :: R) (fun v B => v = .int .i64 0 ∧ B = pt z.g (gO z c pb) :: R) := by
 refine aB func160 ntmps160 rfl rfl ?_
 refine aa (ae (a7 rfl (ag rfl) (ac (a8 (aa (aa (ae (a7 rfl (ab rfl) (ah rfl (aF sW rfl (pp W0 _ z c pb)) ?_)))))))))
 rintro _ B_ ⟨rfl, hB_⟩
 obtain rfl := hB_.symm
 refine ac (a8 ?_)
 refine au rfl ?_ ?_
 intro c1
 exact absurd c1 (by decide)
 intro c1
 refine aA (a8 (aa (ae (a7 rfl (ab rfl) (a7 rfl (aI rfl) ?_)))))
 refine a7 rfl (ar rfl nt rfl aC rfl (by first | exact Nat.zero_add _ | rfl)) ?_
 refine a7 rfl (ap aM rfl (az rfl)) ?_
 refine a7 rfl (ag rfl) (ac (a8 (ao (ak (.inl rfl) (.cons (aj rfl) .nil) ?_))))
 exact ⟨_, ⟨rfl, rfl⟩, inferInstance⟩
end
-- the pool, the frames
section
variable {P : Program} {W0 : World} {N : FSz} {K : Act → World → Prop} {e : bq} {A R : List HP} {pb ps : Nat} {po : Po}
structure PoS (po : Po) (c : Nat) (sp : List Value) (vs : List Value) (Ls : List (List Nat)) : Prop where
  h2 : po.length ≤ c
  h3 : c ≤ maxLen
  h4 : (po.flatMap cW ++ sp).length = c * 2
  hv : vs.length = 16
  hL : LsOk po Ls
theorem wA [hk : Tk cn pb A (ps, po) R] (h0 : 0 < po.length) (h : ∀ g c sp vs Ls, PoS po c sp vs Ls → aG W0 N K e (pt g (am (po.flatMap cW ++ sp) 422) :: pt pb (am (dv ps (.slice (some ⟨g, 0, none⟩) po.length c) vs) 420) :: kH 2 (bC ((vs.zip Ls).map cP)) :: R)) : aG W0 N K e A := by
 refine mw (pb := pb) fun a c vs Ls hv hL => ?_
 refine eC (r := osl 422 2) (b := .slice a po.length c) (gq (fun h1 h2 => by have := congrArg List.length h2; rw [fW] at this; simp at this; omega) fun g n cap sp h1 h2 h3 h4 h5 => ?_)
 cases h1
 exact h g c sp vs Ls ⟨h2, h3, h5, hv, hL⟩
theorem rX {g c : Nat} {sp vs : List Value} {Ls : List (List Nat)} (h : PoS po c sp vs Ls) : Ent (pt g (am (po.flatMap cW ++ sp) 422) :: pt pb (am (dv ps (.slice (some ⟨g, 0, none⟩) po.length c) vs) 420) :: kH 2 (bC ((vs.zip Ls).map cP)) :: R) (cn pb (ps, po) :: R) :=
  Ent.trans (B := osl 422 2 (.slice (some ⟨g, 0, none⟩) po.length c) (po.flatMap cW) :: pt pb (am (dv ps (.slice (some ⟨g, 0, none⟩) po.length c) vs) 420) :: kH 2 (bC ((vs.zip Ls).map cP)) :: R) (e7 h.h2 h.h3 (fW po) h.h4) (kd rfl h.hv h.hL rfl rfl)
theorem wC {b : Nat} {f : Int → Option Value} {k : Int} {t K E : TypeId} {x y : Operand} {z v : Value} {o : Bool} [h : Tk da b A f R] (hu : P.underlying t = some (.map K E)) (hK : P.underlying K = some (.int .i64)) (hz : ∀ w, (zeroValue E).run P w = .ok z w) (hx : ev e x = some (.map (some b))) (hy : ev e y = some (.int .i64 k)) (hv : (f k).getD z = v) (ho : (f k).isSome = o) :
    bO P (bj W0 A) N e (.lookup t x y true) (.tuple #[v, .bool o]) := fun a w _ _ _ _ _ hF hO => by
 subst hv; subst ho
 obtain ⟨L, c, h1, h2, hO1⟩ := Own.mapL (Own.tk (r := da) (b := b) hO)
 have hb := hO1.has.2
 have hg := h2 k
 have hrun : (Instr.lookup t (.map (some b)) (.int .i64 k) true).run P w = .ok (.tuple #[(f k).getD z, .bool (f k).isSome]) w := by
  simp only [Instr.lookup, Sem.run_bind, Sem.run_pure, d8 hu, Result.andThen_ok, MapKept.run_getObj_map hb, run_checkKey hK, oL hK]
  cases hm : fA L k 0 with
  | none =>
   rw [(oK hm).1] at hg
   rw [← hg]
   simp [hz]
  | some p =>
   obtain ⟨j, v⟩ := p
   rw [(mD hm).1] at hg
   rw [← hg]
   simp
 simp only [execOp, hF.eval hx, hF.eval hy, Sem.run_bind, hrun, Result.andThen_ok, Sem.run_pure]
end
theorem wD (W0 : World) (R : List HP) (pb ps : Nat) (po : Po) (f : Nat) (hf : f < po.length) :
    ax Tryz.prog W0 139 [pV pb, .int .i64 f] (cn pb (ps, po) :: R) (fun v B => v = .tuple #[.int .i64 (if (cG po f).1 = -1 then 0 else (cG po f).1), .bool (decide ((cG po f).1 ≠ -1))] ∧ B = cn pb (ps, po) :: R) := by
 have hi : dA po.length f = true := by simp only [dA, decide_eq_true_eq]; omega
 have h0 : 0 < po.length := by omega
 refine aB func139 ntmps139 rfl rfl ?_
 refine aa (ae (a7 rfl (ag rfl) (a7 rfl (ag rfl) (ac (a8 (aa (aa (ae (a7 rfl (ab rfl) (ah rfl (aF ng rfl (lj W0 _ pb ps po h0)) ?_))))))))))
 rintro _ B_ ⟨rfl, hB_⟩
 obtain rfl := hB_.symm
 refine a7 rfl (ab rfl) ?_
 refine bJ rfl rfl rfl ?_ ?_
 intro g1_3
 exact absurd g1_3 (by decide)
 intro g1_3
 refine a7 rfl (ab rfl) (av rfl rfl (a7 rfl (ab rfl) (av rfl rfl (ah rfl (aF sg rfl (oy W0 _ pb ps po f)) ?_))))
 rintro _ B_ ⟨rfl, hB_⟩
 obtain rfl := hB_.symm
 rw [hi]
 refine wA (pb := pb) h0 fun g c sp vs Ls hC => ?_
 refine av rfl rfl (a7 rfl (bM rfl) (a7 rfl (aX rfl rfl) (a7 rfl (ab rfl) ?_)))
 refine bJ rfl rfl rfl ?_ ?_
 intro g1_9
 exact absurd g1_9 (by decide)
 intro g1_9
 refine a7 rfl (ab rfl) (av rfl rfl (a7 rfl (aI rfl) (av rfl rfl ?_)))
 refine a7 rfl (ar rfl fa rfl gK rfl (by first | exact Nat.zero_add _ | rfl)) ?_
 refine av rfl rfl (a7 rfl (ap iO rfl (az rfl)) ?_)
 refine av rfl rfl (a7 rfl (ab rfl) (av rfl rfl ?_))
 refine a7 rfl (bK it jN rfl rfl rfl hf (by first | exact Nat.zero_add _ | rfl)) ?_
 refine av rfl rfl ?_
 refine a7 rfl (ar rfl jM rfl aC rfl (by first | exact Nat.zero_add _ | rfl)) ?_
 refine av rfl rfl ?_
 refine a7 rfl (ap aM rfl (az ((my po sp f 0 hf (by decide)).trans rfl))) ?_
 refine av rfl rfl (a7 rfl (cu rfl rfl) (a7 rfl (aX rfl rfl) (ac (a8 ?_))))
 refine au rfl ?_ ?_
 intro c1
 refine aa (ae (a7 rfl (ag rfl) (a7 rfl (ag rfl) (ac (a8 (ao (aJ (ak (.inl rfl) (.cons (aj rfl) (.cons (aj rfl) .nil)) ?_))))))))
 rw [if_pos (by first | exact c1 | simpa using c1), decide_eq_false (by first | (intro q; exact q (by simpa using c1)) | simpa using c1)]
 exact ⟨_, ⟨rfl, rfl⟩, rX hC⟩
 intro c1
 refine aA (a8 (aa (ae (a7 rfl (ab rfl) (a7 rfl (aI rfl) ?_)))))
 refine a7 rfl (ar rfl fa rfl gK rfl (by first | exact Nat.zero_add _ | rfl)) ?_
 refine a7 rfl (ap iO rfl (az rfl)) ?_
 refine a7 rfl (ab rfl) ?_
 refine a7 rfl (bK it jN rfl rfl rfl hf (by first | exact Nat.zero_add _ | rfl)) ?_
 refine a7 rfl (ar rfl jM rfl aC rfl (by first | exact Nat.zero_add _ | rfl)) ?_
 refine a7 rfl (ap aM rfl (az ((my po sp f 0 hf (by decide)).trans rfl))) ?_
 refine a7 rfl (ag rfl) (a7 rfl (ag rfl) (ac (a8 (ao (ak (.inl rfl) (.cons (aj rfl) (.cons (aj rfl) .nil)) ?_)))))
 rw [if_neg (by first | exact c1 | simpa using c1), decide_eq_true (by first | exact c1 | simpa using c1)]
 exact ⟨_, ⟨rfl, rfl⟩, rX hC⟩
theorem rY (W0 : World) (R : List HP) (pb ps : Nat) (po : Po) (f : Nat) (hf : f < po.length) :
    ax Tryz.prog W0 148 [pV pb, .int .i64 f] (cn pb (ps, po) :: R) (fun v B => v = .bool (cG po f).2 ∧ B = cn pb (ps, po) :: R) := by
 have hi : dA po.length f = true := by simp only [dA, decide_eq_true_eq]; omega
 have h0 : 0 < po.length := by omega
 refine aB func148 ntmps148 rfl rfl ?_
 refine aa (ae (a7 rfl (ag rfl) (ac (a8 (aa (ae (a7 rfl (ab rfl) (ah rfl (aF ng rfl (lj W0 _ pb ps po h0)) ?_))))))))
 rintro _ B_ ⟨rfl, hB_⟩
 obtain rfl := hB_.symm
 refine a7 rfl (bM rfl) (a7 rfl (ab rfl) ?_)
 refine dh rfl rfl rfl ?_ ?_
 intro g1_4
 refine a7 rfl (ab rfl) (av rfl rfl (a7 rfl (ab rfl) (av rfl rfl (ah rfl (aF sg rfl (oy W0 _ pb ps po f)) ?_))))
 rintro _ B_ ⟨rfl, hB_⟩
 obtain rfl := hB_.symm
 rw [hi]
 refine wA (pb := pb) h0 fun g c sp vs Ls hC => ?_
 refine a7 rfl (bI rfl rfl) (a7 rfl (ab rfl) ?_)
 refine dh rfl rfl rfl ?_ ?_
 intro g1_9
 refine a7 rfl (ab rfl) (av rfl rfl (a7 rfl (aI rfl) (av rfl rfl ?_)))
 refine a7 rfl (ar rfl fa rfl gK rfl (by first | exact Nat.zero_add _ | rfl)) ?_
 refine av rfl rfl (a7 rfl (ap iO rfl (az rfl)) ?_)
 refine av rfl rfl (a7 rfl (ab rfl) (av rfl rfl ?_))
 refine a7 rfl (bK it jN rfl rfl rfl hf (by first | exact Nat.zero_add _ | rfl)) ?_
 refine av rfl rfl ?_
 refine a7 rfl (ar rfl jM rfl cy rfl (by first | exact Nat.zero_add _ | rfl)) ?_
 refine av rfl rfl ?_
 refine a7 rfl (ap gd rfl (az ((my po sp f 1 hf (by decide)).trans rfl))) ?_
 refine a7 rfl (bI rfl rfl) (a7 rfl (ag rfl) (ac (a8 (ao (ak (.inl rfl) (.cons (aj rfl) .nil) ?_)))))
 exact ⟨_, ⟨rfl, rfl⟩, rX hC⟩
 intro g1_9
 exact absurd (by decide) g1_9
 intro g1_4
 exact absurd (by decide) g1_4
def wE (fr : List aZ) (f : Nat) : Bool := (fr.getD f []).map Int.ofNat == List.replicate 64 (0 : Int)
theorem Dp (W0 : World) (R : List HP) (ps : Nat) (fr : List aZ) (hF : dI fr) (f : Nat) (hf : f < fr.length) :
    ax Tryz.prog W0 150 [pV ps, .int .i64 f] (bP ps fr :: R) (fun v B => v = .bool (wE fr f) ∧ B = bP ps fr :: R) := by
 have hif : dA fr.length (f : Int) = true := by simp only [dA, decide_eq_true_iff]; omega
 obtain ⟨hl, hb⟩ := hF.get hf
 refine aB func150 ntmps150 rfl rfl ?_
 refine aa (ae (a7 rfl (ag rfl) (ac (a8 (aa (aa (ae (a7 rfl (ab rfl) (a7 rfl (ab rfl) (ah rfl (aF pC rfl (md W0 _ ps fr f)) ?_))))))))))
 rintro _ B_ ⟨rfl, hB_⟩
 obtain rfl := hB_.symm
 refine a7 rfl (bT rfl rfl) (ac (a8 ?_))
 refine au rfl ?_ ?_
 intro c1
 exact absurd c1 (by simp [hif])
 intro c1
 refine aA (a8 (aa ?_))
 refine l9 (ps := ps) fun g => ?_
 refine ae (a7 rfl (ab rfl) (a7 rfl (aI rfl) ?_))
 refine a7 rfl (ar rfl jI rfl jJ rfl (by first | exact Nat.zero_add _ | rfl)) ?_
 refine a7 rfl (ap lQ rfl (az rfl)) ?_
 refine a7 rfl (ab rfl) ?_
 refine a7 rfl (bK kC lR rfl rfl rfl hf (by first | exact Nat.zero_add _ | rfl)) ?_
 refine a7 rfl (bN isAgg178 lR rfl (dt (qw hF hf) (by rw [dQ, hl])) (by rw [dQ, hl])) ?_
 refine a7 rfl (u2 nf g8 Ey rfl) ?_
 refine a7 rfl (qd Tryz.eqGuardType178 rfl rfl (AG (i := Tryz.t5) (ms := (fr.getD f []).map Int.ofNat) (ns := List.replicate 64 (0 : Int)) nf (by kernel_rfl) (by kernel_rfl) s6 isAgg5 (AT _) rfl (by rw [List.length_map]; exact hl) rfl)) ?_
 refine a7 rfl (ag rfl) (ac (a8 (ao (ak (.inl rfl) (.cons (aj rfl) .nil) ?_))))
 exact ⟨_, ⟨rfl, rfl⟩, iC rfl rfl⟩
theorem Dq (qb : Nat) (ps : List Prt) : ax Tryz.prog W0 169 [pV qb] (ik qb ps :: R) (fun v B => v = .int .i64 (ps.length : Nat) ∧ B = ik qb ps :: R) := by
 refine aB func169 ntmps169 rfl rfl ?_
 refine aa (ae (a7 rfl (ag rfl) (ac (a8 (aa (aa (ae (a7 rfl (ab rfl) (a7 rfl (dx underlying66 rfl rfl) (ac (a8 ?_)))))))))))
 refine au rfl ?_ ?_
 intro c1
 cases c1
 intro c1
 refine aA (a8 (aa ?_))
 refine zt (p := qb) fun a c vs hv => ?_
 refine ae (a7 rfl (ab rfl) (a7 rfl (aI rfl) ?_))
 refine a7 rfl (ar rfl pF rfl lS rfl (by first | exact Nat.zero_add _ | rfl)) ?_
 refine a7 rfl (ap x9 rfl (az rfl)) ?_
 refine a7 rfl (aY pG rfl) (a7 rfl (ag rfl) (ac (a8 (ao (ak (.inl rfl) (.cons (aj rfl) .nil) ?_)))))
 exact ⟨_, ⟨rfl, rfl⟩, uc hv rfl⟩
theorem Dr (W0 : World) (R : List HP) (a : Option Addr) (n c : Nat) (l : List Nat) (hl : l.length = n) (hn : n ≤ 64) (hz : ∀ x ∈ l, x = 0) (h0 : a ≠ none) :
    ax Tryz.prog W0 168 [.slice a n c] (osl 5 1 (.slice a n c) (bR l) :: R) (fun v B => v = .bool true ∧ B = osl 5 1 (.slice a n c) (bR l) :: R) := by
  refine aB func168 ntmps168 rfl rfl ?_
  refine aa (ae (a7 rfl (ag rfl) (ac (a8 (aa (aa ?_))))))
  refine eC (r := osl 5 1) (b := .slice a n c) (gq (fun h1 h2 => by cases h1; exact absurd rfl h0) fun g nn c2 sp h1 h2 h3 h4 h5 => ?_)
  cases h1
  refine ae (a7 rfl (ab rfl) (a7 rfl (aY dV rfl) (a7 rfl (ab rfl) (ac (a8 (aP ?_))))))
  refine bX (fun k : Nat => k ≤ n) (fun k => [(5, .slice (some ⟨g, 0, none⟩) n c), (6, .int .i64 (n : Nat)), (7, .int .i64 k)]) (fun k => pt g (am (bR l ++ sp) 5) :: R) (fun k => n - k) 0 ?_ ?_ ?_ ?_
  · exact Nat.zero_le _
  · repeat (first | exact aQ | refine aO rfl ?_)
  · exact inferInstance
  intro k hk
  refine aa (ae (a7 rfl (aV rfl rfl) (ac (a8 (aa ?_)))))
  refine au rfl ?_ ?_
  · intro c2
    refine aA (a8 (aa (aP (aa ?_))))
    have hk1 : k < n := by omega
    have hk2 : k < l.length := by omega
    have hg : (bR l ++ sp)[k * 1]? = some (bV 0) := by
      rw [Nat.mul_one, List.getElem?_append_left (by rw [dQ]; exact hk2), yo l k hk2, hz _ (List.getElem_mem hk2)]
    refine ae ?_
    refine a7 rfl (bK dV g8 rfl rfl rfl hk1 (by first | exact Nat.zero_add _ | rfl)) ?_
    refine a7 rfl (ap isAgg5 rfl (az hg)) ?_
    refine a7 rfl (ag rfl) (ac (a8 (aa (ae (a7 rfl (ab rfl) (a7 rfl (bT rfl rfl) (ac (a8 ?_))))))))
    refine au rfl ?_ ?_
    · intro c4
      exact absurd rfl c4
    intro c4
    refine aA (bw (a8 (ae ?_)))
    refine a7 rfl (bz rfl rfl (by first | exact aT (by omega) | rfl)) ?_
    refine a7 rfl (ab rfl) (ac (a8 ?_))
    refine cg (k + 1) ?_ ?_ ?_ ?_
    · omega
    · omega
    · repeat (first | exact aQ | refine aO rfl ?_)
    exact inferInstance
  intro c2
  refine bF (aR (aR (bH (a8 (aa (ae (a7 rfl (ag rfl) (ac (a8 (ao (ak (.inl rfl) (.cons (aj rfl) .nil) ?_)))))))))))
  exact ⟨_, ⟨rfl, rfl⟩, e7 h2 h3 h4 h5⟩
-- the slots
theorem wF (tb : Nat) (a : Option Addr) (c : Nat) (l : List (Int × Int)) (h : 1 ≤ l.length) : ax Tryz.prog W0 285 [pV tb] (pt tb (gE a l.length c l l.length) :: R) (fun v B => v = .bool false ∧ B = pt tb (gE a l.length c l l.length) :: R) := by
 refine aB func285 ntmps285 rfl rfl ?_
 refine aa (ae (a7 rfl (ag rfl) (ac (a8 (aa (ae (a7 rfl (ab rfl) (a7 rfl (dx xO rfl rfl) (a7 rfl (ab rfl) ?_)))))))))
 refine bJ rfl rfl rfl ?_ ?_
 intro g1_3
 cases g1_3
 intro g1_3
 refine a7 rfl (ab rfl) (av rfl rfl (a7 rfl (aI rfl) (av rfl rfl ?_)))
 refine a7 rfl (ar rfl nx rfl i6 rfl (by first | exact Nat.zero_add _ | rfl)) ?_
 refine av rfl rfl (a7 rfl (ap jO rfl (az rfl)) ?_)
 refine av rfl rfl (a7 rfl (aY fF rfl) (av rfl rfl (a7 rfl (cu rfl rfl) (a7 rfl (aX rfl rfl) (a7 rfl (ag rfl) (ac (a8 (ao (ak (.inl rfl) (.cons (aj rfl) .nil) ?_)))))))))
 refine ⟨_, ⟨congrArg Value.bool ?_, rfl⟩, inferInstance⟩
 rw [Bool.eq_iff_iff]
 simp only [beq_iff_eq, Bool.false_eq_true, iff_false]
 omega
theorem Ds {l : List (Int × Int)} {k j : Nat} (hj : j < 8) (hk : j < k) : (p0 l k)[j]? = some (dU l (j + 1)) := by
 have : j = 0 ∨ j = 1 ∨ j = 2 ∨ j = 3 ∨ j = 4 ∨ j = 5 ∨ j = 6 ∨ j = 7 := by omega
 rcases this with rfl | rfl | rfl | rfl | rfl | rfl | rfl | rfl <;> simp [p0, hk]
theorem pq (tb : Nat) (a : Option Addr) (c : Nat) (l : List (Int × Int)) (h : 1 ≤ l.length) (h8 : l.length ≤ 8) : ax Tryz.prog W0 157 [pV tb] (pt tb (gE a l.length c l l.length) :: R) (fun v B => v = .int .i64 (dU l l.length) ∧ B = pt tb (gE a l.length c l l.length) :: R) := by
 have hg : (kw a l.length c l l.length)[1 + (l.length - 1) * 1]? = some (.int .i64 (dU l l.length)) := by
  rw [kw, Nat.mul_one, Nat.add_comm 1, List.getElem?_cons_succ, List.getElem?_map, Ds (by omega) (by omega), show l.length - 1 + 1 = l.length by omega]; rfl
 refine aB func157 ntmps157 rfl rfl ?_
 refine aa (ae (a7 rfl (ag rfl) (ac (a8 (aa (aa (ae (a7 rfl (ab rfl) (ah rfl (aF call285 rfl (wF tb a c l h)) ?_)))))))))
 rintro _ B_ ⟨rfl, hB_⟩
 obtain rfl := hB_.symm
 refine ac (a8 ?_)
 refine au rfl ?_ ?_
 intro c1
 exact absurd c1 (by decide)
 intro c1
 refine aA (a8 (aa ?_))
 refine di [(tb, 0, _)] 12 d4 rfl (aE aH) (fun hS => ?_)
 refine ai 0 rfl rfl (by kernel_rfl) (by kernel_rfl) (by kernel_rfl) rfl hS (ab rfl) ?_
 refine ai 1 rfl rfl (by kernel_rfl) (by kernel_rfl) (by kernel_rfl) rfl hS (ab rfl) ?_
 refine ai 2 rfl rfl (by kernel_rfl) (by kernel_rfl) (by kernel_rfl) rfl hS (aI rfl) ?_
 refine ai 3 rfl rfl (by kernel_rfl) (by kernel_rfl) (by kernel_rfl) rfl hS (ar rfl nx rfl i6 rfl (by first | exact Nat.zero_add _ | rfl)) ?_
 refine ai 4 rfl rfl (by kernel_rfl) (by kernel_rfl) (by kernel_rfl) rfl hS (ap jO rfl (aU (k := 0) rfl rfl)) ?_
 refine ai 5 rfl rfl (by kernel_rfl) (by kernel_rfl) (by kernel_rfl) rfl hS (aY fF rfl) ?_
 refine ai 6 rfl rfl (by kernel_rfl) (by kernel_rfl) (by kernel_rfl) rfl hS (d7 rfl rfl (by first | exact aT (by omega) | rfl)) ?_
 refine ai 7 rfl rfl (by kernel_rfl) (by kernel_rfl) (by kernel_rfl) rfl hS (aI rfl) ?_
 refine ai 8 rfl rfl (by kernel_rfl) (by kernel_rfl) (by kernel_rfl) rfl hS (ar rfl nx rfl xE rfl (by first | exact Nat.zero_add _ | rfl)) ?_
 refine ai 9 rfl rfl (by kernel_rfl) (by kernel_rfl) (by kernel_rfl) rfl hS (iz EG aC rfl rfl (j := l.length - 1) (by omega) (by omega) (by first | exact Nat.zero_add _ | rfl)) ?_
 refine ai 10 rfl rfl (by kernel_rfl) (by kernel_rfl) (by kernel_rfl) rfl hS (ap aM rfl (aU (k := 0) rfl hg)) ?_
 refine ai 11 rfl rfl (by kernel_rfl) (by kernel_rfl) (by kernel_rfl) rfl hS (ag rfl) ?_
 refine cm (by kernel_rfl) ?_; clear hS
 refine a8 (ao (ak (.inl rfl) (.cons (aj rfl) .nil) ?_))
 exact ⟨_, ⟨rfl, rfl⟩, inferInstance⟩
section
variable {rb vb pv tr : Nat} {cs : List Value}
end
section
variable {rb vb pv tr : Nat} {cs : List Value}
end
theorem Dt (gb : Nat) (a b c : Int) : ax Tryz.prog W0 41 [pV gb] (pt gb (gZ a b c) :: R) (fun v B => v = .bool false ∧ B = pt gb (gZ a b c) :: R) := by
 refine aB func41 ntmps41 rfl rfl ?_
 refine aa (ae (a7 rfl (ag rfl) (ac (a8 (aa (ae (a7 rfl (ab rfl) (a7 rfl (dx underlying55 rfl rfl) (a7 rfl (ab rfl) ?_)))))))))
 refine bJ rfl rfl rfl ?_ ?_
 intro g1_3
 cases g1_3
 intro g1_3
 refine a7 rfl (ab rfl) (av rfl rfl (a7 rfl (aI rfl) (av rfl rfl ?_)))
 refine a7 rfl (ar rfl xu rfl cy rfl (by first | exact Nat.zero_add _ | rfl)) ?_
 refine av rfl rfl (a7 rfl (ap gd rfl (az rfl)) ?_)
 refine av rfl rfl (a7 rfl (bM rfl) (a7 rfl (aX rfl rfl) (a7 rfl (ag rfl) (ac (a8 (ao (ak (.inl rfl) (.cons (aj rfl) .nil) ?_)))))))
 exact ⟨_, ⟨rfl, rfl⟩, inferInstance⟩
theorem Du (gb : Nat) (a b c : Int) : ax Tryz.prog W0 16 [pV gb] (pt gb (gZ a b c) :: R) (fun v B => v = cX ∧ B = pt gb (gZ a b c) :: R) := by
 have hcl : ∀ A, ax Tryz.prog W0 42 [cX] A (fun v B => v = cX ∧ B = A) := fun A => by
  refine aB func42 ntmps42 rfl rfl ?_
  refine aa (ae (a7 rfl (ag rfl) (ac (a8 (aa (aa (ae (a7 rfl (ab rfl) (a7 rfl (nW EM rfl rfl) (ac (a8 ?_)))))))))))
  refine au rfl ?_ ?_
  intro c1
  refine aa (ae (a7 rfl (ag rfl) (ac (a8 (ao (aJ (ak (.inl rfl) (.cons (aj rfl) .nil) ?_)))))))
  exact ⟨_, ⟨rfl, rfl⟩, inferInstance⟩
  intro c1
  exact absurd rfl c1
 refine aB func16 ntmps16 rfl rfl ?_
 refine aa (ae (a7 rfl (ag rfl) (ac (a8 (aa (aa (ae (a7 rfl (ab rfl) (ah rfl (aF call41 rfl (Dt gb a b c)) ?_)))))))))
 rintro _ B_ ⟨rfl, hB_⟩
 obtain rfl := hB_.symm
 refine ac (a8 ?_)
 refine au rfl ?_ ?_
 intro c1
 exact absurd c1 (by decide)
 intro c1
 refine aA (a8 (aa (ae (a7 rfl (ab rfl) (a7 rfl (aI rfl) ?_)))))
 refine a7 rfl (ar rfl xu rfl sizeOf127 rfl (by first | exact Nat.zero_add _ | rfl)) ?_
 refine a7 rfl (ar rfl underlying127 rfl sizeOf54 rfl (by first | exact Nat.zero_add _ | rfl)) ?_
 refine a7 rfl (ap isAgg54 rfl (az rfl)) ?_
 refine ah rfl (aS call42 rfl (hcl _)) ?_
 rintro _ B_ ⟨rfl, hB_⟩
 obtain rfl := hB_.symm
 refine a7 rfl (ag rfl) (ac (a8 (ao (ak (.inl rfl) (.cons (aj rfl) .nil) ?_))))
 exact ⟨_, ⟨rfl, rfl⟩, inferInstance⟩
section
variable {W0 : World} {R : List HP} {cb gb i a b c d hb : Nat} {cf : Cfg} {ps pb db qb tb : Nat}
end
abbrev bE (hv : Nat) (c : Cfg) : Obj := am (pV hv :: cF c) 80
abbrev bn (m : Mz) (c : Cfg) (fr : List aZ) (R : List HP) : List HP := pt m.hv (eU c m.ho m.a m.cap m.tb m.ib 0) :: pt m.ho (am (dN c m.ps m.pb m.db m.qb m.gb) 68) :: bP m.ps fr :: cn m.pb (m.ps, dm c) :: eu m.db m.x :: ik m.qb (fi c.pl) :: pt m.gb (gZ c.cats c.gate c.quota) :: osl 50 1 (.slice m.a 1 m.cap) [pV m.z.g] :: pt m.z.g (gO m.z c m.pb) :: pt m.z.x.m (gG m.z.pv m.z.bt m.z.bs) :: bY m.z.bt ([], p7 4 0) :: e9 m.z.bs [] :: pt m.z.pv (dT m.ps m.z.pm 0) :: pt m.z.bx iL :: pt m.z.pm (cK (f6 c)) :: R
def i3 (p : Nat → Bool) : Nat → Bool
 | 0 => true
 | k + 1 => i3 p k && p k
theorem Dv {p : Nat → Bool} {n k : Nat} (hk : k < n) (h : p k = false) : i3 p n = false := by
 induction n with
 | zero => omega
 | succ n ih =>
  rw [i3]
  rcases Nat.lt_or_ge k n with q | q
  rw [ih q, Bool.false_and]
  obtain rfl : k = n := by omega
  rw [h, Bool.and_false]
section
variable {W0 : World} {m : Mz} {c : Cfg} {fr : List aZ} {lk : Nat} {X Y : List HP}
theorem rZ (h : CfK W0 c) (hfl : fr.length ≤ 1000) (fid : FuncId) (cs : List Value) (p : Nat → Bool) (hcall : ∀ args w, (callFunc fid args).run Tryz.prog w = .ok (.enter fid args) w)
    (hC : ∀ f, f < fr.length → ax Tryz.prog W0 fid ([] ++ [.int .i64 f, .agg (lI (dw c f)).toArray] ++ cs) (pt lk (bE m.hv c) :: bn m c fr X) (fun v B => v = .bool (p f) ∧ B = pt lk (bE m.hv c) :: bn m c fr X)) :
    ax Tryz.prog W0 137 [pV lk, .func (.func fid) #[] cs.toArray] (pt lk (bE m.hv c) :: bn m c fr X) (fun v B => v = .bool (i3 p fr.length) ∧ B = pt lk (bE m.hv c) :: bn m c fr X) := by
 refine aB func137 ntmps137 rfl rfl ?_
 refine aa (ae (a7 rfl (ag rfl) (ac (a8 (aa (aa (ae (a7 rfl (ab rfl) (a7 rfl (aI rfl) ?_)))))))))
 refine a7 rfl (ar rfl eJ rfl fw rfl (by first | exact Nat.zero_add _ | rfl)) ?_
 refine a7 rfl (ap gk rfl (az rfl)) ?_
 refine ah rfl (aF fH rfl (fC m.hv c m.ho m.a m.cap m.tb m.ib 0)) ?_
 rintro _ B_ ⟨rfl, hB_⟩
 obtain rfl := hB_.symm
 refine ah rfl (aF pP rfl (mQ m.ho c m.ps m.pb m.db m.qb m.gb)) ?_
 rintro _ B_ ⟨rfl, hB_⟩
 obtain rfl := hB_.symm
 refine ah rfl (aF kE rfl (jo W0 _ m.ps fr)) ?_
 rintro _ B_ ⟨rfl, hB_⟩
 obtain rfl := hB_.symm
 refine a7 rfl (ab rfl) (ac (a8 (aP ?_)))
 refine bX (fun k : Nat => k ≤ fr.length ∧ i3 p k = true) (fun k => [(0, pV lk), (1, .func (.func fid) #[] cs.toArray), (12, .int .i64 (fr.length : Nat)), (13, .int .i64 k)]) (fun k => pt lk (bE m.hv c) :: bn m c fr X) (fun k => fr.length - k) 0 ?_ ?_ ?_ ?_
 exact ⟨Nat.zero_le _, rfl⟩
 · repeat (first | exact aQ | refine aO rfl ?_)
 exact inferInstance
 intro k ⟨hk, hall⟩
 refine aa (ae (a7 rfl (aV rfl rfl) (ac (a8 (aa ?_)))))
 refine au rfl ?_ ?_
 intro c2
 refine aA (a8 (aa (aP (aa ?_))))
 have hk1 : k < fr.length := by omega
 refine ae (a7 rfl (ab rfl) (a7 rfl (ag rfl) (ac (a8 (aa (ae (a7 rfl (ab rfl) (a7 rfl (ab rfl) (a7 rfl (ab rfl) (a7 rfl (aI rfl) ?_))))))))))
 refine a7 rfl (ar rfl eJ rfl ce rfl (by first | exact Nat.zero_add _ | rfl)) ?_
 refine a7 rfl (bN cR ce rfl (dt (vs := cF c) rfl rfl) rfl) ?_
 refine a7 rfl (ab rfl) (ah rfl (aS call122 rfl (vu W0 _ c h k)) ?_)
 rintro _ B_ ⟨rfl, hB_⟩
 obtain rfl := hB_.symm
 refine ah rfl (iB (us := []) (cs := cs) rfl hcall rfl (hC k hk1)) ?_
 rintro _ B_ ⟨rfl, hB_⟩
 obtain rfl := hB_.symm
 refine a7 rfl (bM rfl) (ac (a8 ?_))
 refine au rfl ?_ ?_
 intro c4
 refine aa (ae (a7 rfl (ag rfl) (ac (a8 (ao (be (aJ (aJ (be (aJ (ak (.inl rfl) (.cons (aj rfl) .nil) ?_)))))))))))
 rw [Dv hk1 (by simpa using c4)]
 exact ⟨_, ⟨rfl, rfl⟩, inferInstance⟩
 intro c4
 refine aA (bw (a8 (ae ?_)))
 refine a7 rfl (bz rfl rfl (by first | exact aT (by omega) | rfl)) ?_
 refine a7 rfl (ab rfl) (ac (a8 ?_))
 refine cg (k + 1) ?_ ?_ ?_ ?_
 refine ⟨by omega, ?_⟩
 rw [i3, hall]; simpa using c4
 omega
 · repeat (first | exact aQ | refine aO rfl ?_)
 exact inferInstance
 intro c2
 refine bF (aR (aR (bH (a8 (aa (ae (a7 rfl (ag rfl) (ac (a8 (ao (ak (.inl rfl) (.cons (aj rfl) .nil) ?_)))))))))))
 obtain rfl : k = fr.length := by omega
 rw [hall]
 exact ⟨_, ⟨rfl, rfl⟩, inferInstance⟩
theorem n1 (fid : FuncId) (cs : List Value) (b : Bool) (hcall : ∀ args w, (callFunc fid args).run Tryz.prog w = .ok (.enter fid args) w)
    (hC : ax Tryz.prog W0 fid ([] ++ [.int .i64 ((0 : Nat) : Int), pV m.z.g] ++ cs) (pt lk (bE m.hv c) :: bn m c fr X) (fun v B => v = .bool b ∧ B = pt lk (bE m.hv c) :: bn m c fr Y)) :
    ax Tryz.prog W0 140 [pV lk, .func (.func fid) #[] cs.toArray] (pt lk (bE m.hv c) :: bn m c fr X) (fun v B => v = .bool b ∧ B = pt lk (bE m.hv c) :: bn m c fr Y) := by
  refine aB func140 ntmps140 rfl rfl ?_
  refine aa (ae (a7 rfl (ag rfl) (ac (a8 (aa (aa (ae (a7 rfl (ab rfl) (a7 rfl (aI rfl) ?_)))))))))
  refine a7 rfl (ar rfl eJ rfl fw rfl (by first | exact Nat.zero_add _ | rfl)) ?_
  refine a7 rfl (ap gk rfl (az rfl)) ?_
  refine ah rfl (aF call273 rfl (Dg m.hv c m.ho m.a m.cap m.tb m.ib 0)) ?_
  rintro _ B_ ⟨rfl, hB_⟩
  obtain rfl := hB_.symm
  refine a7 rfl (ab rfl) (ac (a8 (aP ?_)))
  refine bX (fun k : Nat => k ≤ 1 ∧ (k = 1 → b = true)) (fun k => [(0, pV lk), (1, .func (.func fid) #[] cs.toArray), (10, .int .i64 ((1 : Nat) : Int)), (11, .int .i64 k)]) (fun k => pt lk (bE m.hv c) :: bn m c fr (if k = 0 then X else Y)) (fun k => 1 - k) 0 ?_ ?_ ?_ ?_
  · exact ⟨Nat.zero_le _, fun q => by cases q⟩
  · repeat (first | exact aQ | refine aO rfl ?_)
  · rw [if_pos rfl]
    exact inferInstance
  intro k ⟨hk, hb⟩
  refine aa (ae (a7 rfl (aV rfl rfl) (ac (a8 (aa ?_)))))
  refine au rfl ?_ ?_
  · intro c2
    refine aA (a8 (aa (aP (aa ?_))))
    obtain rfl : k = 0 := by omega
    rw [if_pos rfl]
    refine ae (a7 rfl (ab rfl) (a7 rfl (ag rfl) (ac (a8 (aa (ae (a7 rfl (ab rfl) (a7 rfl (ab rfl) (a7 rfl (ab rfl) (a7 rfl (aI rfl) ?_))))))))))
    refine a7 rfl (ar rfl eJ rfl fw rfl (by first | exact Nat.zero_add _ | rfl)) ?_
    refine a7 rfl (ap gk rfl (az rfl)) ?_
    refine a7 rfl (ab rfl) (ah rfl (fJ call274 rfl (Di m.hv c m.ho m.a m.cap m.tb m.ib 0 m.z.g)) ?_)
    rintro _ B_ ⟨rfl, hB_⟩
    obtain rfl := hB_.symm
    refine ah rfl (fc (B := pt lk (bE m.hv c) :: bn m c fr X) inferInstance (iB (us := []) (cs := cs) rfl hcall rfl hC)) ?_
    rintro _ B_ ⟨rfl, hB_⟩
    obtain rfl := hB_.symm
    refine a7 rfl (bM rfl) (ac (a8 ?_))
    refine au rfl ?_ ?_
    · intro c4
      refine aa (ae (a7 rfl (ag rfl) (ac (a8 (ao (be (aJ (aJ (be (aJ (ak (.inl rfl) (.cons (aj rfl) .nil) ?_)))))))))))
      rw [show b = false by simpa using c4]
      exact ⟨_, ⟨rfl, rfl⟩, inferInstance⟩
    intro c4
    refine aA (bw (a8 (ae ?_)))
    refine a7 rfl (bz rfl rfl (by first | exact aT (by omega) | rfl)) ?_
    refine a7 rfl (ab rfl) (ac (a8 ?_))
    refine cg 1 ?_ ?_ ?_ ?_
    · exact ⟨Nat.le_refl _, fun _ => by simpa using c4⟩
    · show 1 - 1 < 1 - 0; decide
    · repeat (first | exact aQ | refine aO rfl ?_)
    rw [if_neg (show ¬ (1 : Nat) = 0 by decide)]
    exact inferInstance
  intro c2
  refine bF (aR (aR (bH (a8 (aa (ae (a7 rfl (ag rfl) (ac (a8 (ao (ak (.inl rfl) (.cons (aj rfl) .nil) ?_)))))))))))
  obtain rfl : k = 1 := by omega
  rw [if_neg (show ¬ (1 : Nat) = 0 by decide), hb rfl]
  exact ⟨_, ⟨rfl, rfl⟩, inferInstance⟩
-- rule 1
def kA (c : Cfg) (f : Nat) : Bool := if (dw c f).1 = 1 then (decide ((cG (dm c) f).1 ≠ -1) && (if (cG (dm c) f).1 = -1 then 0 else (cG (dm c) f).1) == (dw c f).2) else !decide ((cG (dm c) f).1 ≠ -1)
theorem Dw {b1 : Nat} (f : Nat) (hf : f < (dm c).length) :
    ax Tryz.prog W0 138 ([] ++ [.int .i64 f, .agg (lI (dw c f)).toArray] ++ [pV b1]) (pt lk (bE m.hv c) :: bn m c fr (pt b1 (am [pV lk] 78) :: X)) (fun v B => v = .bool (kA c f) ∧ B = pt lk (bE m.hv c) :: bn m c fr (pt b1 (am [pV lk] 78) :: X)) := by
 refine aB func138 ntmps138 rfl rfl ?_
 refine aa (ae (ah rfl (bL rfl) ?_))
 rintro _ _ ⟨b4, rfl, rfl⟩
 refine a7 rfl (ag rfl) (ac (a8 (aa (ae (a7 rfl (ap i9 rfl (az rfl)) ?_)))))
 refine a7 rfl (aI rfl) ?_
 refine a7 rfl (ar rfl eJ rfl fw rfl (by first | exact Nat.zero_add _ | rfl)) ?_
 refine a7 rfl (ap gk rfl (az rfl)) ?_
 refine ah rfl (aF fH rfl (fC m.hv c m.ho m.a m.cap m.tb m.ib 0)) ?_
 rintro _ B_ ⟨rfl, hB_⟩
 obtain rfl := hB_.symm
 refine ah rfl (aF ny rfl (lK m.ho c m.ps m.pb m.db m.qb m.gb)) ?_
 rintro _ B_ ⟨rfl, hB_⟩
 obtain rfl := hB_.symm
 refine a7 rfl (ab rfl) (ah rfl (aF call139 rfl (wD W0 _ m.pb m.ps (dm c) f hf)) ?_)
 rintro _ B_ ⟨rfl, hB_⟩
 obtain rfl := hB_.symm
 refine a7 rfl (ab rfl) (a7 rfl (aW rfl rfl) (a7 rfl (aW rfl rfl) (a7 rfl (ag rfl) (a7 rfl (ag rfl) (ac (a8 (aa (aa (ae ?_)))))))))
 refine a7 rfl (ar rfl iQ rfl aC rfl (by first | exact Nat.zero_add _ | rfl)) ?_
 refine a7 rfl (ap aM rfl (az rfl)) ?_
 refine a7 rfl (cu rfl rfl) (ac (a8 ?_))
 refine au rfl ?_ ?_
 intro c2
 refine aa (ae (a7 rfl (ab rfl) (a7 rfl (ab rfl) ?_)))
 refine dh rfl rfl rfl ?_ ?_
 intro g3_2
 refine a7 rfl (ab rfl) (av rfl rfl ?_)
 refine a7 rfl (ar rfl iQ rfl aC rfl (by first | exact Nat.zero_add _ | rfl)) ?_
 refine av rfl rfl (a7 rfl (ap aM rfl (az rfl)) ?_)
 refine av rfl rfl (a7 rfl (cu rfl rfl) (a7 rfl (bI rfl rfl) (a7 rfl (ag rfl) (ac (a8 (ao (aJ (ak (.inl rfl) (.cons (aj rfl) .nil) ?_))))))))
 refine ⟨_, ⟨?_, rfl⟩, inferInstance⟩
 rw [kA, if_pos (show (dw c f).1 = 1 by simpa using c2)]
 first | rfl | simp_all [ct]
 intro g3_2
 refine aD rfl rfl rfl rfl (aD rfl rfl rfl rfl (aD rfl rfl rfl rfl (a7 rfl (aX rfl rfl) (a7 rfl (ag rfl) (ac (a8 (ao (aJ (ak (.inl rfl) (.cons (aj rfl) .nil) ?_)))))))))
 refine ⟨_, ⟨?_, rfl⟩, inferInstance⟩
 rw [kA, if_pos (show (dw c f).1 = 1 by simpa using c2)]
 first | rfl | simp_all [ct]
 intro c2
 refine aA (a8 (aa (ae (a7 rfl (ab rfl) (a7 rfl (bM rfl) (a7 rfl (ag rfl) (ac (a8 (ao (ak (.inl rfl) (.cons (aj rfl) .nil) ?_))))))))))
 refine ⟨_, ⟨?_, rfl⟩, inferInstance⟩
 rw [kA, if_neg (show ¬ (dw c f).1 = 1 by simpa using c2)]; rfl
theorem Dx (h : CfK W0 c) (hfl : fr.length ≤ 1000) (hl : fr.length = (dm c).length) : ax Tryz.prog W0 60 [pV lk] (pt lk (bE m.hv c) :: bn m c fr X) (fun v B => v = .bool (i3 (kA c) fr.length) ∧ B = pt lk (bE m.hv c) :: bn m c fr X) := by
  refine aB func60 ntmps60 rfl rfl ?_
  refine aa (ae (ah rfl (eW rfl rfl) ?_))
  rintro _ _ ⟨b1, rfl, rfl⟩
  refine a7 rfl (ag rfl) (ac (a8 (aa (ae (a7 rfl (ap i9 rfl (az rfl)) ?_)))))
  refine a7 rfl (dz rfl rfl) ?_
  refine ah rfl (fc (B := pt lk (bE m.hv c) :: bn m c fr (pt b1 (am [pV lk] 78) :: X)) inferInstance (aS xQ rfl (rZ h hfl 138 [pV b1] (kA c) call138 fun f hf => Dw f (by omega)))) ?_
  rintro _ B_ ⟨rfl, hB_⟩
  obtain rfl := hB_.symm
  refine a7 rfl (ag rfl) (ac (a8 (ao (ak (.inl rfl) (.cons (aj rfl) .nil) ?_))))
  exact ⟨_, ⟨rfl, rfl⟩, inferInstance⟩
-- rule 4
def kB (c : Cfg) (fr : List aZ) (f : Nat) : Bool := (dw c f).1 != 1 || ((cG (dm c) f).2 || wE fr f)
theorem Dy {b1 : Nat} (hF : dI fr) (f : Nat) (hf : f < (dm c).length) (hl : fr.length = (dm c).length) :
    ax Tryz.prog W0 149 ([] ++ [.int .i64 f, .agg (lI (dw c f)).toArray] ++ [pV b1]) (pt lk (bE m.hv c) :: bn m c fr (pt b1 (am [pV lk] 78) :: X)) (fun v B => v = .bool (kB c fr f) ∧ B = pt lk (bE m.hv c) :: bn m c fr (pt b1 (am [pV lk] 78) :: X)) := by
 refine aB func149 ntmps149 rfl rfl ?_
 refine aa (ae (ah rfl (bL rfl) ?_))
 rintro _ _ ⟨b4, rfl, rfl⟩
 refine a7 rfl (ag rfl) (ac (a8 (aa (ae ?_))))
 refine a7 rfl (ar rfl iQ rfl aC rfl (by first | exact Nat.zero_add _ | rfl)) ?_
 refine a7 rfl (ap aM rfl (az rfl)) ?_
 refine a7 rfl (bT rfl rfl) (a7 rfl (ab rfl) ?_)
 refine bJ rfl rfl rfl ?_ ?_
 intro g1_4
 refine aD rfl rfl rfl rfl (aD rfl rfl rfl rfl (aD rfl rfl rfl rfl (aD rfl rfl rfl rfl (aD rfl rfl rfl rfl (aD rfl rfl rfl rfl (aD rfl rfl rfl rfl (a7 rfl (bI rfl rfl) (a7 rfl (ab rfl) (aD rfl rfl rfl rfl (aD rfl rfl rfl rfl (aD rfl rfl rfl rfl (aD rfl rfl rfl rfl (aD rfl rfl rfl rfl (aD rfl rfl rfl rfl (aD rfl rfl rfl rfl (aD rfl rfl rfl rfl (a7 rfl (bI rfl rfl) (a7 rfl (ag rfl) (ac (a8 (ao (ak (.inl rfl) (.cons (aj rfl) .nil) ?_))))))))))))))))))))))
 refine ⟨_, ⟨?_, rfl⟩, inferInstance⟩
 refine congrArg Value.bool ?_
 simp_all [kB]
 intro g1_4
 refine a7 rfl (ap i9 rfl (az rfl)) ?_
 refine av rfl rfl (a7 rfl (aI rfl) (av rfl rfl ?_))
 refine a7 rfl (ar rfl eJ rfl fw rfl (by first | exact Nat.zero_add _ | rfl)) ?_
 refine av rfl rfl (a7 rfl (ap gk rfl (az rfl)) ?_)
 refine av rfl rfl (ah rfl (aF fH rfl (fC m.hv c m.ho m.a m.cap m.tb m.ib 0)) ?_)
 rintro _ B_ ⟨rfl, hB_⟩
 obtain rfl := hB_.symm
 refine av rfl rfl (ah rfl (aF ny rfl (lK m.ho c m.ps m.pb m.db m.qb m.gb)) ?_)
 rintro _ B_ ⟨rfl, hB_⟩
 obtain rfl := hB_.symm
 refine av rfl rfl (a7 rfl (ab rfl) (av rfl rfl (ah rfl (aF xR rfl (rY W0 _ m.pb m.ps (dm c) f hf)) ?_)))
 rintro _ B_ ⟨rfl, hB_⟩
 obtain rfl := hB_.symm
 refine a7 rfl (aX rfl rfl) (a7 rfl (ab rfl) ?_)
 refine bJ rfl rfl rfl ?_ ?_
 intro g1_14
 refine aD rfl rfl rfl rfl (aD rfl rfl rfl rfl (aD rfl rfl rfl rfl (aD rfl rfl rfl rfl (aD rfl rfl rfl rfl (aD rfl rfl rfl rfl (aD rfl rfl rfl rfl (a7 rfl (bI rfl rfl) (a7 rfl (ag rfl) (ac (a8 (ao (ak (.inl rfl) (.cons (aj rfl) .nil) ?_))))))))))))
 refine ⟨_, ⟨?_, rfl⟩, inferInstance⟩
 refine congrArg Value.bool ?_
 simp_all [kB]
 intro g1_14
 refine a7 rfl (ap i9 rfl (az rfl)) ?_
 refine av rfl rfl (a7 rfl (aI rfl) (av rfl rfl ?_))
 refine a7 rfl (ar rfl eJ rfl fw rfl (by first | exact Nat.zero_add _ | rfl)) ?_
 refine av rfl rfl (a7 rfl (ap gk rfl (az rfl)) ?_)
 refine av rfl rfl (ah rfl (aF fH rfl (fC m.hv c m.ho m.a m.cap m.tb m.ib 0)) ?_)
 rintro _ B_ ⟨rfl, hB_⟩
 obtain rfl := hB_.symm
 refine av rfl rfl (ah rfl (aF pP rfl (mQ m.ho c m.ps m.pb m.db m.qb m.gb)) ?_)
 rintro _ B_ ⟨rfl, hB_⟩
 obtain rfl := hB_.symm
 refine av rfl rfl (a7 rfl (ab rfl) (av rfl rfl ?_))
 refine ah rfl (aF call150 rfl (Dp W0 _ m.ps fr hF f (by omega))) ?_
 rintro _ B_ ⟨rfl, hB_⟩
 obtain rfl := hB_.symm
 refine a7 rfl (aX rfl rfl) (a7 rfl (ag rfl) (ac (a8 (ao (ak (.inl rfl) (.cons (aj rfl) .nil) ?_)))))
 refine ⟨_, ⟨?_, rfl⟩, inferInstance⟩
 refine congrArg Value.bool ?_
 simp_all [kB]
theorem Dz (h : CfK W0 c) (hfl : fr.length ≤ 1000) (hF : dI fr) (hl : fr.length = (dm c).length) : ax Tryz.prog W0 63 [pV lk] (pt lk (bE m.hv c) :: bn m c fr X) (fun v B => v = .bool (i3 (kB c fr) fr.length) ∧ B = pt lk (bE m.hv c) :: bn m c fr X) := by
  refine aB func63 ntmps63 rfl rfl ?_
  refine aa (ae (ah rfl (eW rfl rfl) ?_))
  rintro _ _ ⟨b1, rfl, rfl⟩
  refine a7 rfl (ag rfl) (ac (a8 (aa (ae (a7 rfl (ap i9 rfl (az rfl)) ?_)))))
  refine a7 rfl (dz rfl rfl) ?_
  refine ah rfl (fc (B := pt lk (bE m.hv c) :: bn m c fr (pt b1 (am [pV lk] 78) :: X)) inferInstance (aS xQ rfl (rZ h hfl 149 [pV b1] (kB c fr) call149 fun f hf => Dy hF f (by omega) hl))) ?_
  rintro _ B_ ⟨rfl, hB_⟩
  obtain rfl := hB_.symm
  refine a7 rfl (ag rfl) (ac (a8 (ao (ak (.inl rfl) (.cons (aj rfl) .nil) ?_))))
  exact ⟨_, ⟨rfl, rfl⟩, inferInstance⟩
-- rule 5
theorem DC (W0 : World) (R : List HP) (bm pv bt bs ps pm : Nat) :
    ax Tryz.prog W0 153 [pV bm] (pt bm (gG pv bt bs) :: bY bt ([], p7 4 0) :: e9 bs [] :: pt pv (dT ps pm 0) :: R)
      (fun v B => ∃ a c, v = .slice a 0 c ∧ B = pt bm (gG pv bt bs) :: bY bt ([], p7 4 0) :: e9 bs [] :: pt pv (dT ps pm 0) :: R) := by
 have hR0 : Rep [] 0 [] := Rep.nil
 refine aB func153 ntmps153 rfl rfl ?_
 refine aa (ae (a7 rfl (ag rfl) (ac (a8 (aa (aa (ae (a7 rfl (ab rfl) (ah rfl (aF call279 rfl (D6 bm pv bt bs)) ?_)))))))))
 rintro _ B_ ⟨rfl, hB_⟩
 obtain rfl := hB_.symm
 refine ac (a8 ?_)
 refine au rfl ?_ ?_
 intro c1
 exact absurd c1 (by decide)
 intro c1
 refine aA (a8 (aa (ae (a7 rfl (ab rfl) ?_))))
 refine ah rfl (qI call280 rfl (Dc W0 _ bm pv bt bs ps pm 0 [] (.int .i64 ((4 : Nat) : Int)) (.int .i64 ((0 : Nat) : Int)) 0 4 [] [] hR0 (by decide) (by decide) (by decide) (fun L T => L = [] ∧ T = []) (fun L T h => by rw [h.1]; decide) (fun L T p h => by obtain ⟨rfl, rfl⟩ := h; exact ⟨rfl, rfl⟩) ⟨rfl, rfl⟩)) ?_
 rintro _ B_ ⟨rfl, its1, T1, L1, hB_, hR1, hT1, ⟨rfl, rfl⟩, _⟩
 subst hB_
 obtain rfl : its1 = [] := List.perm_nil.1 hR1.perm
 refine ac (a8 (aa ?_))
 refine di [(bm, 0, _)] 12 d4 rfl (aE aH) (fun hS => ?_)
 refine ai 0 rfl rfl (by kernel_rfl) (by kernel_rfl) (by kernel_rfl) rfl hS (ab rfl) ?_
 refine ai 1 rfl rfl (by kernel_rfl) (by kernel_rfl) (by kernel_rfl) rfl hS (aI rfl) ?_
 refine ai 2 rfl rfl (by kernel_rfl) (by kernel_rfl) (by kernel_rfl) rfl hS (ar rfl lX rfl sH rfl (by first | exact Nat.zero_add _ | rfl)) ?_
 refine ai 3 rfl rfl (by kernel_rfl) (by kernel_rfl) (by kernel_rfl) rfl hS (ap isAgg441 rfl (aU (k := 0) rfl rfl)) ?_
 refine ai 5 rfl rfl (by kernel_rfl) (by kernel_rfl) (by kernel_rfl) rfl hS (ab rfl) ?_
 refine ai 6 rfl rfl (by kernel_rfl) (by kernel_rfl) (by kernel_rfl) rfl hS (aI rfl) ?_
 refine ai 7 rfl rfl (by kernel_rfl) (by kernel_rfl) (by kernel_rfl) rfl hS (ar rfl lX rfl sG rfl (by first | exact Nat.zero_add _ | rfl)) ?_
 refine ai 8 rfl rfl (by kernel_rfl) (by kernel_rfl) (by kernel_rfl) rfl hS (ap isAgg440 rfl (aU (k := 0) rfl rfl)) ?_
 refine b0 4 (by kernel_rfl) rfl rfl (aF call281 rfl (D2 W0 _ bs [] (by decide))) rfl ?_; clear hS
 rintro _ B_ ⟨a1, k1, rfl, hB_⟩
 subst hB_
 refine ⟨(aE aH), fun hS => ?_⟩
 refine b0 9 (by kernel_rfl) rfl rfl (aF call282 rfl (Df (CZ W0 _ bt [] (.int .i64 ((4 : Nat) : Int)) (.int .i64 ((0 : Nat) : Int)) 0 [] hR1 (by decide)))) rfl ?_; clear hS
 rintro _ B_ ⟨a2, k2, rfl, hf2, hB_⟩
 subst hB_
 refine ⟨(aE aH), fun hS => ?_⟩
 refine b0 10 (by kernel_rfl) rfl rfl (qR (sz := 5) (by_ := 40) (info := Tryz.t306) nB (by kernel_rfl) rfl rfl rfl rfl (by decide) rfl rfl (news := []) (Or.inl rfl) rfl rfl (by simp only [maxLen, List.length_nil]; omega) (by decide)) rfl ?_; clear hS
 rintro _ _ ⟨a3, k3, rfl, rfl⟩
 refine ⟨(aE aH), fun hS => ?_⟩
 refine ai 11 rfl rfl (by kernel_rfl) (by kernel_rfl) (by kernel_rfl) rfl hS (ag rfl) ?_
 refine cm (by kernel_rfl) ?_; clear hS
 refine a8 (ao (ak (.inl rfl) (.cons (aj rfl) .nil) ?_))
 exact ⟨_, ⟨a3, k3, rfl, rfl⟩, inferInstance⟩
theorem DD : ax Tryz.prog W0 151 ([] ++ [.int .i64 ((0 : Nat) : Int), pV m.z.g] ++ []) (pt lk (bE m.hv c) :: bn m c fr X) (fun v B => v = .bool true ∧ B = pt lk (bE m.hv c) :: bn m c fr X) := by
 refine aB func151 ntmps151 rfl rfl ?_
 refine aa (ae (a7 rfl (ag rfl) (ac (a8 (aa (aa (ae (a7 rfl (ab rfl) (ah rfl (aF call152 rfl (Dn W0 _ m.z c m.pb)) ?_)))))))))
 rintro _ B_ ⟨rfl, hB_⟩
 obtain rfl := hB_.symm
 refine ah rfl (qI call153 rfl (DC W0 _ m.z.x.m m.z.pv m.z.bt m.z.bs m.ps m.z.pm)) ?_
 rintro _ B_ ⟨a, cc, rfl, hB_⟩
 obtain rfl := hB_.symm
 refine a7 rfl (aY nB rfl) (a7 rfl (ab rfl) (ac (a8 (aP ?_))))
 refine bX (fun _ : Unit => True) (fun _ => [(12, .int .i64 0), (13, .int .i64 0)]) (fun _ => pt lk (bE m.hv c) :: bn m c fr X) (fun _ => 0) () ?_ ?_ ?_ ?_
 trivial
 · repeat (first | exact aQ | refine aO rfl ?_)
 exact inferInstance
 intro _ _
 refine aa (ae (a7 rfl (aV rfl rfl) (ac (a8 (aa ?_)))))
 refine au rfl ?_ ?_
 intro c2
 omega
 intro c2
 refine bF (aR (aR (bH (a8 (aa (ae (a7 rfl (ag rfl) (ac (a8 (ao (ak (.inl rfl) (.cons (aj rfl) .nil) ?_)))))))))))
 exact ⟨_, ⟨rfl, rfl⟩, inferInstance⟩
theorem DF : ax Tryz.prog W0 64 [pV lk] (pt lk (bE m.hv c) :: bn m c fr X) (fun v B => v = .bool true ∧ B = pt lk (bE m.hv c) :: bn m c fr X) := by
  refine aB func64 ntmps64 rfl rfl ?_
  refine aa (ae (a7 rfl (ag rfl) (ac (a8 (aa (ae (a7 rfl (ab rfl) (ah rfl (aS pW rfl (n1 151 [] true call151 DD)) ?_))))))))
  rintro _ B_ ⟨rfl, hB_⟩
  obtain rfl := hB_.symm
  refine a7 rfl (ag rfl) (ac (a8 (ao (ak (.inl rfl) (.cons (aj rfl) .nil) ?_))))
  exact ⟨_, ⟨rfl, rfl⟩, inferInstance⟩
-- rule 7
theorem DG {W0 : World} {R : List HP} (m : Mz) (c : Cfg) : ax Tryz.prog W0 162 [pV m.hv] (pt m.hv (eU c m.ho m.a m.cap m.tb m.ib 0) :: pt m.ho (am (dN c m.ps m.pb m.db m.qb m.gb) 68) :: pt m.gb (gZ c.cats c.gate c.quota) :: R) (fun v B => v = cX ∧ B = pt m.hv (eU c m.ho m.a m.cap m.tb m.ib 0) :: pt m.ho (am (dN c m.ps m.pb m.db m.qb m.gb) 68) :: pt m.gb (gZ c.cats c.gate c.quota) :: R) := by
 refine aB func162 ntmps162 rfl rfl ?_
 refine aa (ae (a7 rfl (ag rfl) (ac (a8 (aa (ae (a7 rfl (ab rfl) (ah rfl (aF fH rfl (fC m.hv c m.ho m.a m.cap m.tb m.ib 0)) ?_))))))))
 rintro _ B_ ⟨rfl, hB_⟩
 obtain rfl := hB_.symm
 refine ah rfl (aF call15 rfl (Dl m.ho c m.ps m.pb m.db m.qb m.gb)) ?_
 rintro _ B_ ⟨rfl, hB_⟩
 obtain rfl := hB_.symm
 refine ah rfl (aF call16 rfl (Du m.gb c.cats c.gate c.quota)) ?_
 rintro _ B_ ⟨rfl, hB_⟩
 obtain rfl := hB_.symm
 refine a7 rfl (ag rfl) (ac (a8 (ao (ak (.inl rfl) (.cons (aj rfl) .nil) ?_))))
 exact ⟨_, ⟨rfl, rfl⟩, inferInstance⟩
theorem DI : ax Tryz.prog W0 66 [pV lk] (pt lk (bE m.hv c) :: bn m c fr X) (fun v B => v = .bool true ∧ B = pt lk (bE m.hv c) :: bn m c fr X) := by
  refine aB func66 ntmps66 rfl rfl ?_
  refine aa (ae (a7 rfl (ag rfl) (ac (a8 (aa (ae (ah rfl (mF) ?_)))))))
  rintro _ _ ⟨b1, rfl, rfl⟩
  refine a7 rfl (ag rfl) (ac (a8 (aa (ae (a7 rfl (ag rfl) (ac (a8 (aa (aa (ae (a7 rfl (ab rfl) (a7 rfl (aI rfl) ?_))))))))))))
  refine a7 rfl (ar rfl eJ rfl fw rfl (by first | exact Nat.zero_add _ | rfl)) ?_
  refine a7 rfl (ap gk rfl (az rfl)) ?_
  refine ah rfl (kV call162 rfl (DG m c)) ?_
  rintro _ B_ ⟨rfl, hB_⟩
  obtain rfl := hB_.symm
  refine a7 rfl (aY EM rfl) (a7 rfl (ab rfl) (ac (a8 (aP ?_))))
  refine bX (fun _ : Unit => True) (fun _ => [(13, .int .i64 0), (14, .int .i64 0)]) (fun _ => pt lk (bE m.hv c) :: bn m c fr X) (fun _ => 0) () ?_ ?_ ?_ ?_
  · trivial
  · repeat (first | exact aQ | refine aO rfl ?_)
  · exact inferInstance
  intro _ _
  refine aa (ae (a7 rfl (aV rfl rfl) (ac (a8 (aa ?_)))))
  refine au rfl ?_ ?_
  · intro c4
    omega
  intro c4
  refine bF (aR (aR (bH (a8 (aa (ae (a7 rfl (ag rfl) (ac (a8 (ao (ak (.inl rfl) (.cons (aj rfl) .nil) ?_)))))))))))
  exact ⟨_, ⟨rfl, rfl⟩, inferInstance⟩
-- rule 8
theorem DJ (h : CfOk W0 c) (hx : DkOk m.x) (h1 : ∀ i : Nat, i < 32 → gz m.x.rs 32 i = none) (h2 : ∀ i : Nat, i < 32 → g0 m.x.ss i = dy) (h3 : ∀ i : Nat, i < 32 → lw c i = none) : ax Tryz.prog W0 67 [pV lk] (pt lk (bE m.hv c) :: bn m c fr X) (fun v B => v = .bool true ∧ B = pt lk (bE m.hv c) :: bn m c fr X) := by
  refine aB func67 ntmps67 rfl rfl ?_
  refine aa (ae (a7 rfl (ag rfl) (ac (a8 (aa (aa (ae (a7 rfl (ab rfl) (ac (a8 (aP ?_)))))))))))
  refine bX (fun k : Nat => k ≤ 32) (fun k => [(0, pV lk), (9, .int .i64 k)]) (fun k => pt lk (bE m.hv c) :: bn m c fr X) (fun k => 32 - k) 0 ?_ ?_ ?_ ?_
  · exact Nat.zero_le _
  · repeat (first | exact aQ | refine aO rfl ?_)
  · exact inferInstance
  intro k hk
  refine aa (ae (a7 rfl (aV rfl rfl) (ac (a8 (aa ?_)))))
  refine au rfl ?_ ?_
  · intro c2
    refine aA (a8 (aa (aP (aa ?_))))
    have hk1 : k < 32 := by omega
    have w1 := h1 k hk1
    have w2 := h2 k hk1
    have w3 := h3 k hk1
    refine ae (a7 rfl (ab rfl) (a7 rfl (ag rfl) (ac (a8 (aa (ae (a7 rfl (ab rfl) (a7 rfl (aI rfl) ?_))))))))
    refine a7 rfl (ar rfl eJ rfl fw rfl (by first | exact Nat.zero_add _ | rfl)) ?_
    refine a7 rfl (ap gk rfl (az rfl)) ?_
    refine ah rfl (aF fH rfl (fC m.hv c m.ho m.a m.cap m.tb m.ib 0)) ?_
    rintro _ B_ ⟨rfl, hB_⟩
    obtain rfl := hB_.symm
    refine ah rfl (aF call23 rfl (wy m.ho c m.ps m.pb m.db m.qb m.gb)) ?_
    rintro _ B_ ⟨rfl, hB_⟩
    obtain rfl := hB_.symm
    refine a7 rfl (ab rfl) (ah rfl (aF call165 rfl (AW W0 _ m.db m.x hx (k : Int))) ?_)
    rintro _ B_ ⟨rfl, hB_⟩
    obtain rfl := hB_.symm
    rw [w1]
    refine a7 rfl (ab rfl) (a7 rfl (aW rfl rfl) (a7 rfl (aW rfl rfl) (a7 rfl (ag rfl) (a7 rfl (ag rfl) (ac (a8 (aa (ae (a7 rfl (ab rfl) (a7 rfl (aI rfl) ?_))))))))))
    refine a7 rfl (ar rfl eJ rfl ce rfl (by first | exact Nat.zero_add _ | rfl)) ?_
    refine a7 rfl (bN cR ce rfl (dt (vs := cF c) rfl rfl) rfl) ?_
    refine a7 rfl (ab rfl) ?_
    refine ah rfl (aS call166 rfl (Av W0 _ c h (k : Int) (by omega))) ?_
    rintro _ B_ ⟨rfl, hB_⟩
    obtain rfl := hB_.symm
    rw [w3, show uM none = -1 from rfl]
    refine a7 rfl (ag rfl) (ac (a8 (aa (aa (ae (a7 rfl (ab rfl) (a7 rfl (ab rfl) (a7 rfl (dr rfl rfl) (a7 rfl (td xS rfl rfl) ?_)))))))))
    refine a7 rfl (ab rfl) ?_
    refine bJ rfl rfl rfl ?_ ?_
    · intro g6_5
      exact absurd (by decide) g6_5
    intro g6_5
    refine a7 rfl (ab rfl) (av rfl rfl (a7 rfl (ab rfl) ?_))
    refine dh rfl rfl rfl ?_ ?_
    · intro g6_7
      exact absurd g6_7 (by decide)
    intro g6_7
    refine aD rfl rfl rfl rfl (aD rfl rfl rfl rfl (av rfl rfl (a7 rfl (aX rfl rfl) (a7 rfl (aX rfl rfl) (ac (a8 (iA rfl (aA (a8 (aa (ae (a7 rfl (ab rfl) (a7 rfl (aI rfl) ?_)))))))))))))
    refine a7 rfl (ar rfl eJ rfl fw rfl (by first | exact Nat.zero_add _ | rfl)) ?_
    refine a7 rfl (ap gk rfl (az rfl)) ?_
    refine ah rfl (aF fH rfl (fC m.hv c m.ho m.a m.cap m.tb m.ib 0)) ?_
    rintro _ B_ ⟨rfl, hB_⟩
    obtain rfl := hB_.symm
    refine ah rfl (aF call23 rfl (wy m.ho c m.ps m.pb m.db m.qb m.gb)) ?_
    rintro _ B_ ⟨rfl, hB_⟩
    obtain rfl := hB_.symm
    refine a7 rfl (ab rfl) (ah rfl (aF call167 rfl (AX W0 _ m.db m.x hx k hk1)) ?_)
    rintro _ B_ ⟨bb, rfl, hB_⟩
    obtain rfl := hB_.symm
    rw [w2]
    refine a7 rfl (ab rfl) (a7 rfl (aW rfl rfl) (a7 rfl (aW rfl rfl) (a7 rfl (ag rfl) (a7 rfl (ag rfl) (ac (a8 (aa (ae (a7 rfl (ab rfl) (a7 rfl (bM rfl) (a7 rfl (ab rfl) ?_)))))))))))
    refine bJ rfl rfl rfl ?_ ?_
    · intro g9_3
      exact absurd g9_3 (by decide)
    intro g9_3
    refine a7 rfl (ab rfl) (av rfl rfl (a7 rfl (bM rfl) (av rfl rfl (a7 rfl (ab rfl) ?_))))
    refine dh rfl rfl rfl ?_ ?_
    · intro g9_6
      refine a7 rfl (ab rfl) (av rfl rfl ?_)
      refine ah rfl (aF call168 rfl (Dr W0 _ (some ⟨bb, 0, none⟩) 16 16 dy rfl (by decide) (by decide) (by simp))) ?_
      rintro _ B_ ⟨rfl, hB_⟩
      obtain rfl := hB_.symm
      refine av rfl rfl (a7 rfl (bM rfl) (av rfl rfl (a7 rfl (bI rfl rfl) (a7 rfl (aX rfl rfl) (ac (a8 ?_))))))
      refine au rfl ?_ ?_
      · intro c9
        exact absurd c9 (by decide)
      intro c9
      refine aA (bw (a8 (ae ?_)))
      refine a7 rfl (bz rfl rfl (by first | exact aT (by omega) | rfl)) ?_
      refine a7 rfl (ab rfl) (ac (a8 ?_))
      refine cg (k + 1) ?_ ?_ ?_ ?_
      · omega
      · omega
      · repeat (first | exact aQ | refine aO rfl ?_)
      exact inferInstance
    intro g9_6
    exact absurd (by decide) g9_6
  intro c2
  refine bF (aR (aR (bH (a8 (aa (ae (a7 rfl (ag rfl) (ac (a8 (ao (ak (.inl rfl) (.cons (aj rfl) .nil) ?_)))))))))))
  exact ⟨_, ⟨rfl, rfl⟩, inferInstance⟩
-- rule 9
theorem DK : ax Tryz.prog W0 171 ([] ++ [.int .i64 ((0 : Nat) : Int), pV m.z.g] ++ []) (pt lk (bE m.hv c) :: bn m c fr X) (fun v B => v = .bool true ∧ B = pt lk (bE m.hv c) :: bn m c fr X) := by
 refine aB func171 ntmps171 rfl rfl ?_
 refine aa (ae (a7 rfl (ag rfl) (ac (a8 (aa (ae (a7 rfl (ab rfl) (ah rfl (aF call172 rfl (Do W0 _ m.z c m.pb)) ?_))))))))
 rintro _ B_ ⟨rfl, hB_⟩
 obtain rfl := hB_.symm
 refine ah rfl (aF call173 rfl (BY m.z.bx)) ?_
 rintro _ B_ ⟨rfl, hB_⟩
 obtain rfl := hB_.symm
 refine a7 rfl (iU rfl rfl) (a7 rfl (ag rfl) (ac (a8 (ao (ak (.inl rfl) (.cons (aj rfl) .nil) ?_)))))
 exact ⟨_, ⟨rfl, rfl⟩, inferInstance⟩
theorem DL (hp : c.pl = []) : ax Tryz.prog W0 68 [pV lk] (pt lk (bE m.hv c) :: bn m c fr X) (fun v B => v = .bool true ∧ B = pt lk (bE m.hv c) :: bn m c fr X) := by
 refine aB func68 ntmps68 rfl rfl ?_
 refine aa (ae (a7 rfl (ag rfl) (ac (a8 (aa (ae (a7 rfl (ab rfl) (a7 rfl (aI rfl) ?_))))))))
 refine a7 rfl (ar rfl eJ rfl fw rfl (by first | exact Nat.zero_add _ | rfl)) ?_
 refine a7 rfl (ap gk rfl (az rfl)) ?_
 refine ah rfl (aF fH rfl (fC m.hv c m.ho m.a m.cap m.tb m.ib 0)) ?_
 rintro _ B_ ⟨rfl, hB_⟩
 obtain rfl := hB_.symm
 refine ah rfl (aF call24 rfl (Dj m.ho c m.ps m.pb m.db m.qb m.gb)) ?_
 rintro _ B_ ⟨rfl, hB_⟩
 obtain rfl := hB_.symm
 refine a7 rfl (ag rfl) (ac (a8 (aa (aa (ae (a7 rfl (ab rfl) (ah rfl (aF call169 rfl (Dq m.qb (fi c.pl))) ?_)))))))
 rintro _ B_ ⟨rfl, hB_⟩
 obtain rfl := hB_.symm
 refine a7 rfl (ab rfl) (ac (a8 (aP ?_)))
 refine bX (fun _ : Unit => True) (fun _ => [(0, pV lk), (12, .int .i64 ((fi c.pl).length : Nat)), (13, .int .i64 0)]) (fun _ => pt lk (bE m.hv c) :: bn m c fr X) (fun _ => 0) () ?_ ?_ ?_ ?_
 trivial
 · repeat (first | exact aQ | refine aO rfl ?_)
 exact inferInstance
 intro _ _
 refine aa (ae (a7 rfl (aV rfl rfl) (ac (a8 (aa ?_)))))
 refine au rfl ?_ ?_
 intro c3
 rw [hp] at c3; first | omega | (simp [fi] at c3)
 intro c3
 refine bF (aR (aR (bH (a8 (aa (ae (a7 rfl (ab rfl) (ah rfl (aS pW rfl (n1 171 [] true call171 DK)) ?_))))))))
 rintro _ B_ ⟨rfl, hB_⟩
 obtain rfl := hB_.symm
 refine a7 rfl (ag rfl) (ac (a8 (ao (ak (.inl rfl) (.cons (aj rfl) .nil) ?_))))
 exact ⟨_, ⟨rfl, rfl⟩, inferInstance⟩
end
abbrev nI (n : Nat) : Value := .int .i64 n
def dj (pg : List Pl) : Nat → List Nat
 | 0 => []
 | k + 1 => if cr pg ((k : Nat) : Int) = true then dj pg k ++ [k] else dj pg k
theorem s0 (pg : List Pl) : ∀ k, (dj pg k).length ≤ k
 | 0 => Nat.le_refl _
 | k + 1 => by
  have := s0 pg k
  rw [dj]; split <;> simp <;> omega
theorem DN (W0 : World) (R : List HP) (pm : Nat) (pg : List Pl) (h : Pgs pg) :
    ax Tryz.prog W0 275 [pV pm] (pt pm (cK pg) :: R) (fun v B => ∃ a c, v = .slice a (dj pg 12).length c ∧ B = osl 3 1 (.slice a (dj pg 12).length c) ((dj pg 12).map nI) :: pt pm (cK pg) :: R) := by
 refine aB func275 ntmps275 rfl rfl ?_
 refine aa (ae (a7 rfl (ag rfl) (ac (a8 (aa (aa (ae (a7 rfl (ab rfl) (ah rfl (aF pE rfl (mg pm pg h)) ?_)))))))))
 rintro _ B_ ⟨rfl, hB_⟩
 obtain rfl := hB_.symm
 refine ac (a8 ?_)
 refine au rfl ?_ ?_
 intro c1
 exact absurd c1 (by decide)
 intro c1
 refine aA (a8 (aa (ae (a7 rfl (ag rfl) (ac (a8 (aa (aa (ae (a7 rfl (ab rfl) (ac (a8 (aP ?_)))))))))))))
 refine bX (fun X : Nat × Option Addr × Nat => X.1 ≤ 12) (fun X => [(0, pV pm), (3, .slice X.2.1 (dj pg X.1).length X.2.2), (7, .int .i64 X.1)]) (fun X => osl 3 1 (.slice X.2.1 (dj pg X.1).length X.2.2) ((dj pg X.1).map nI) :: pt pm (cK pg) :: R) (fun X => 12 - X.1) (0, none, 0) ?_ ?_ ?_ ?_
 exact Nat.zero_le _
 · repeat (first | exact aQ | refine aO rfl ?_)
 exact dZ (E := 3) (sz := 1) (k := ent_refl)
 intro ⟨k, a, cap⟩ hk
 dsimp only at hk ⊢
 refine aa (ae (a7 rfl (aV rfl rfl) (ac (a8 (aa ?_)))))
 refine au rfl ?_ ?_
 intro c5
 refine aA (a8 ?_)
 refine gQ (fun Z : Option Addr × Nat => k < 12) (fun Z => [(0, pV pm), (3, .slice Z.1 (dj pg (k + 1)).length Z.2), (7, .int .i64 k)]) (fun Z => osl 3 1 (.slice Z.1 (dj pg (k + 1)).length Z.2) ((dj pg (k + 1)).map nI) :: pt pm (cK pg) :: R) ?_ ?_
 skip
 refine aP (aa ?_)
 have hk1 : k < 12 := by omega
 have hl := s0 pg k
 refine ae (a7 rfl (ab rfl) (a7 rfl (ag rfl) (ac (a8 (aa (ae (a7 rfl (ab rfl) (a7 rfl (ab rfl) (ah rfl (aF wT rfl (qz pm pg h ((k : Nat) : Int))) ?_)))))))))
 rintro _ B_ ⟨rfl, hB_⟩
 obtain rfl := hB_.symm
 refine ac (a8 ?_)
 refine au rfl ?_ ?_
 intro c7
 refine ae (a7 rfl (ab rfl) (a7 rfl (ab rfl) ?_))
 refine ah rfl (jg dd aC f9 rfl rfl rfl rfl rfl (by decide) (by decide)) ?_
 rintro _ _ ⟨b1, rfl, rfl⟩
 refine ah rfl (eg (sz := 1) (by_ := 8) (info := Tryz.t3) dd (by kernel_rfl) rfl rfl rfl rfl (by decide) rfl rfl dK rfl rfl (by simp only [maxLen]; omega) (by omega)) ?_
 rintro _ _ ⟨a3, c3, rfl, rfl⟩
 refine a7 rfl (ag rfl) (ac (bw (a8 ?_)))
 refine dG (a3, c3) ?_ ?_ ?_
 exact hk1
 · rw [show dj pg (k + 1) = dj pg k ++ [k] by rw [dj, if_pos (by simpa using c7)], show (dj pg k ++ [k]).length = (dj pg k).length + 1 by simp]
   repeat (first | exact aQ | refine aO rfl ?_)
 rw [show dj pg (k + 1) = dj pg k ++ [k] by rw [dj, if_pos (by simpa using c7)], show (dj pg k ++ [k]).length = (dj pg k).length + 1 by simp, show (dj pg k ++ [k]).map nI = (dj pg k).map nI ++ [nI k] by simp]
 exact inferInstance
 intro c7
 refine aA (bw (a8 ?_))
 refine dG (a, cap) ?_ ?_ ?_
 exact hk1
 · rw [show dj pg (k + 1) = dj pg k by rw [dj, if_neg (by simpa using c7)]]
   repeat (first | exact aQ | refine aO rfl ?_)
 rw [show dj pg (k + 1) = dj pg k by rw [dj, if_neg (by simpa using c7)]]
 exact inferInstance
 intro ⟨a4, c4⟩ hk1
 refine ae ?_
 refine a7 rfl (bz rfl rfl (by first | exact aT (by omega) | rfl)) ?_
 refine a7 rfl (ab rfl) (ac (a8 ?_))
 refine cg (k + 1, a4, c4) ?_ ?_ ?_ ?_
 omega
 show 12 - (k + 1) < 12 - k; omega
 · repeat (first | exact aQ | refine aO rfl ?_)
 exact inferInstance
 intro c5
 refine bF (aR (aR (bH (a8 (aa (ae (a7 rfl (ab rfl) (a7 rfl (ag rfl) (ac (a8 (ao (ak (.inl rfl) (.cons (aj rfl) .nil) ?_))))))))))))
 obtain rfl : k = 12 := by omega
 exact ⟨_, ⟨a, cap, rfl, rfl⟩, inferInstance⟩
def jH (L : List Nat) (F : Nat → Int) : Nat → Int → Option Value
 | 0 => fun _ => none
 | k + 1 => km (jH L F k) (F (L.getD k 0)) (some (nI (L.getD k 0)))
abbrev fD (c : Cfg) (n : Nat) : Int := (du (f6 c) ((n : Nat) : Int)).1
abbrev i4 (c : Cfg) : List Nat := dj (f6 c) 12
abbrev f8 (c : Cfg) : Int → Option Value := jH (i4 c) (fD c) (i4 c).length
structure OwnOk (c : Cfg) : Prop where
  pg : Pgs (f6 c)
  ne : i4 c ≠ []
  low : ∀ k, k < (i4 c).length → (i4 c).getD k 0 < 8
  fr : ∀ k, k < (i4 c).length → ∃ f : Nat, fD c ((i4 c).getD k 0) = (f : Int) ∧ f < (dm c).length ∧ cG (dm c) f = (0, true)
  nw : ∀ k, k < (i4 c).length → jH (i4 c) (fD c) k (fD c ((i4 c).getD k 0)) = none
section
variable {W0 : World} {m : Mz} {c : Cfg} {fr : List aZ} {lk : Nat} {X Y : List HP}
theorem wG (h : OwnOk c) : ax Tryz.prog W0 142 [pV lk, .int .i64 ((0 : Nat) : Int), pV m.z.g] (pt lk (bE m.hv c) :: bn m c fr X)
    (fun v B => ∃ bm, v = .tuple #[.map (some bm), .bool true] ∧ B = da bm (f8 c) :: pt lk (bE m.hv c) :: bn m c fr X) := by
 obtain ⟨L, hL⟩ : ∃ L, i4 c = L := ⟨_, rfl⟩
 have hne := h.ne
 have hlow := h.low
 have hfr := h.fr
 have hnw := h.nw
 have hlen : L.length ≤ 12 := by rw [← hL]; exact s0 _ _
 rw [f8]
 rw [hL] at hne hlow hfr hnw ⊢
 refine aB func142 ntmps142 rfl rfl ?_
 refine aa (ae (a7 rfl (ag rfl) (a7 rfl (ag rfl) (ac (a8 (aa (ae (ah rfl (mF) ?_))))))))
 rintro _ _ ⟨bm, rfl, rfl⟩
 refine a7 rfl (ag rfl) (ac (a8 (aa (aa (ae (a7 rfl (ab rfl) (ah rfl (aF xT rfl (rW W0 _ m.z c m.pb)) ?_)))))))
 rintro _ B_ ⟨rfl, hB_⟩
 obtain rfl := hB_.symm
 refine ah rfl (aF sF rfl (oM m.z.pv m.ps m.z.pm 0)) ?_
 rintro _ B_ ⟨rfl, hB_⟩
 obtain rfl := hB_.symm
 refine ah rfl (aF call275 rfl (DN W0 _ m.z.pm (f6 c) h.pg)) ?_
 rintro _ B_ ⟨a, cc, rfl, hB_⟩
 obtain rfl := hB_.symm
 rw [show dj (f6 c) 12 = L from hL]
 refine gq (fun h1 h2 => by exact absurd (by simpa using h2) hne) fun gl nn c2 sp h1 h2 h3 h4 h5 => ?_
 cases h1
 refine a7 rfl (aY dd rfl) (a7 rfl (ab rfl) (ac (a8 (aP ?_))))
 refine bX (fun k : Nat => k ≤ L.length) (fun k => [(0, pV lk), (1, .int .i64 ((0 : Nat) : Int)), (2, pV m.z.g), (8, .map (some bm)), (21, .slice (some ⟨gl, 0, none⟩) L.length cc), (22, .int .i64 (L.length : Nat)), (23, .int .i64 k)]) (fun k => pt gl (am (L.map nI ++ sp) 3) :: da bm (jH L (fD c) k) :: pt lk (bE m.hv c) :: bn m c fr X) (fun k => L.length - k) 0 ?_ ?_ ?_ ?_
 exact Nat.zero_le _
 · repeat (first | exact aQ | refine aO rfl ?_)
 show Ent _ (pt gl (am (L.map nI ++ sp) 3) :: da bm (fun _ => none) :: pt lk (bE m.hv c) :: bn m c fr X)
 exact inferInstance
 intro k hk
 refine aa (ae (a7 rfl (aV rfl rfl) (ac (a8 (aa ?_)))))
 refine au rfl ?_ ?_
 intro c3
 refine aA (a8 (aa (aP (aa ?_))))
 have hk1 : k < L.length := by omega
 obtain ⟨n, hn⟩ : ∃ n, L.getD k 0 = n := ⟨_, rfl⟩
 have hg : (L.map nI ++ sp)[k * 1]? = some (nI n) := by
  rw [Nat.mul_one, List.getElem?_append_left (by rw [List.length_map]; exact hk1), List.getElem?_map, ← hn]
  simp [List.getD, hk1]
 have w1 := hlow k hk1
 obtain ⟨f, w2, w3, w4⟩ := hfr k hk1
 have w5 := hnw k hk1
 have w6 : jH L (fD c) (k + 1) = km (jH L (fD c) k) (fD c n) (some (nI n)) := by rw [jH, hn]
 rw [hn] at w1 w2 w5
 have w7 : (if (cG (dm c) f).1 = -1 then (0 : Int) else (cG (dm c) f).1) = 0 := by rw [w4]; rfl
 have w8 : decide ((cG (dm c) f).1 ≠ -1) = true := by rw [w4]; rfl
 have w9 : (cG (dm c) f).2 = true := by rw [w4]
 have w10 : du (f6 c) ((n : Nat) : Int) = ((f : Int), (du (f6 c) ((n : Nat) : Int)).2) := by rw [← w2]
 refine ae ?_
 refine a7 rfl (bK dd aC rfl rfl rfl hk1 (by first | exact Nat.zero_add _ | rfl)) ?_
 refine a7 rfl (ap aM rfl (az hg)) ?_
 refine a7 rfl (ag rfl) (ac (a8 (aa (aa (ae (a7 rfl (ab rfl) (a7 rfl (dr rfl rfl) (ac (a8 ?_)))))))))
 refine au rfl ?_ ?_
 intro c5
 omega
 intro c5
 refine aA (a8 (aa (ae (a7 rfl (ab rfl) (ah rfl (aF xT rfl (rW W0 _ m.z c m.pb)) ?_)))))
 rintro _ B_ ⟨rfl, hB_⟩
 obtain rfl := hB_.symm
 refine ah rfl (aF sF rfl (oM m.z.pv m.ps m.z.pm 0)) ?_
 rintro _ B_ ⟨rfl, hB_⟩
 obtain rfl := hB_.symm
 refine a7 rfl (ab rfl) (ah rfl (aF xo rfl (qA m.z.pm (f6 c) h.pg ((n : Nat) : Int))) ?_)
 rintro _ B_ ⟨rfl, hB_⟩
 obtain rfl := hB_.symm
 rw [w10]
 refine a7 rfl (ab rfl) (a7 rfl (aW rfl rfl) (a7 rfl (aW rfl rfl) (ah rfl (cH iN) ?_)))
 rintro _ _ ⟨b11, rfl, rfl⟩
 refine bc (cD eH rfl rfl rfl rfl rfl) ?_
 rintro _ _ rfl
 refine a7 rfl (ag rfl) (ac (a8 (aa ?_)))
 refine di [(lk, 0, _), (b11, 0, _)] 14 d4 rfl (aE (aE aH)) (fun hS => ?_)
 refine ai 0 rfl rfl (by kernel_rfl) (by kernel_rfl) (by kernel_rfl) rfl hS (ab rfl) ?_
 refine ai 1 rfl rfl (by kernel_rfl) (by kernel_rfl) (by kernel_rfl) rfl hS (aI rfl) ?_
 refine ai 2 rfl rfl (by kernel_rfl) (by kernel_rfl) (by kernel_rfl) rfl hS (ar rfl eJ rfl fw rfl (by first | exact Nat.zero_add _ | rfl)) ?_
 refine ai 3 rfl rfl (by kernel_rfl) (by kernel_rfl) (by kernel_rfl) rfl hS (ap gk rfl (by first | exact aU (k := 0) rfl rfl | exact aU (k := 1) rfl rfl)) ?_
 refine ai 6 rfl rfl (by kernel_rfl) (by kernel_rfl) (by kernel_rfl) rfl hS (ar rfl ge rfl aC rfl (by first | exact Nat.zero_add _ | rfl)) ?_
 refine ai 7 rfl rfl (by kernel_rfl) (by kernel_rfl) (by kernel_rfl) rfl hS (ap aM rfl (by first | exact aU (k := 0) rfl rfl | exact aU (k := 1) rfl rfl)) ?_
 refine b0 4 (by kernel_rfl) rfl rfl (aF fH rfl (fC m.hv c m.ho m.a m.cap m.tb m.ib 0)) rfl ?_; clear hS
 rintro _ B_ ⟨rfl, hB_⟩
 obtain rfl := hB_.symm
 refine ⟨(aE (aE aH)), fun hS => ?_⟩
 refine b0 5 (by kernel_rfl) rfl rfl (aF ny rfl (lK m.ho c m.ps m.pb m.db m.qb m.gb)) rfl ?_; clear hS
 rintro _ B_ ⟨rfl, hB_⟩
 obtain rfl := hB_.symm
 refine ⟨(aE (aE aH)), fun hS => ?_⟩
 refine b0 8 (by kernel_rfl) rfl rfl (aF call139 rfl (wD W0 _ m.pb m.ps (dm c) f w3)) rfl ?_; clear hS
 rintro _ B_ ⟨rfl, hB_⟩
 obtain rfl := hB_.symm
 rw [w7, w8]
 refine ⟨(aE (aE aH)), fun hS => ?_⟩
 refine ai 9 rfl rfl (by kernel_rfl) (by kernel_rfl) (by kernel_rfl) rfl hS (ab rfl) ?_
 refine ai 10 rfl rfl (by kernel_rfl) (by kernel_rfl) (by kernel_rfl) rfl hS (aW rfl rfl) ?_
 refine ai 11 rfl rfl (by kernel_rfl) (by kernel_rfl) (by kernel_rfl) rfl hS (aW rfl rfl) ?_
 refine ai 12 rfl rfl (by kernel_rfl) (by kernel_rfl) (by kernel_rfl) rfl hS (ag rfl) ?_
 refine ai 13 rfl rfl (by kernel_rfl) (by kernel_rfl) (by kernel_rfl) rfl hS (ag rfl) ?_
 refine cm (by kernel_rfl) ?_; clear hS
 refine a8 (aa (aa (ae (a7 rfl (ab rfl) ?_))))
 refine a7 rfl (ar rfl ge rfl aC rfl (by first | exact Nat.zero_add _ | rfl)) ?_
 refine a7 rfl (ap aM rfl (az rfl)) ?_
 refine a7 rfl (wC (b := bm) (f := jH L (fD c) k) (k := (f : Int)) (v := .int .i64 0) (o := false) jX dF f9 rfl rfl (by rw [← w2, w5]; rfl) (by rw [← w2, w5]; rfl)) ?_
 refine a7 rfl (ab rfl) (a7 rfl (aW rfl rfl) (a7 rfl (aW rfl rfl) (a7 rfl (ag rfl) (a7 rfl (ag rfl) (ac (a8 (aa ?_)))))))
 refine di [(lk, 0, _), (b11, 0, _)] 22 d4 rfl (aE (aE aH)) (fun hS => ?_)
 refine ai 0 rfl rfl (by kernel_rfl) (by kernel_rfl) (by kernel_rfl) rfl hS (ab rfl) ?_
 refine ai 1 rfl rfl (by kernel_rfl) (by kernel_rfl) (by kernel_rfl) rfl hS (ab rfl) ?_
 refine jj (t := 57) rfl ?_ ?_
 intro g9_2
 exact absurd g9_2 (by decide)
 intro g9_2
 refine ai 2 rfl rfl (by kernel_rfl) (by kernel_rfl) (by kernel_rfl) rfl hS (ab rfl) ?_
 refine ai 3 rfl rfl (by kernel_rfl) (by kernel_rfl) (by kernel_rfl) rfl hS (bM rfl) ?_
 refine ai 4 rfl rfl (by kernel_rfl) (by kernel_rfl) (by kernel_rfl) rfl hS (aX rfl rfl) ?_
 refine ai 5 rfl rfl (by kernel_rfl) (by kernel_rfl) (by kernel_rfl) rfl hS (ab rfl) ?_
 refine jj (t := 61) rfl ?_ ?_
 intro g9_6
 exact absurd g9_6 (by decide)
 intro g9_6
 refine ai 6 rfl rfl (by kernel_rfl) (by kernel_rfl) (by kernel_rfl) rfl hS (ab rfl) ?_
 refine ai 7 rfl rfl (by kernel_rfl) (by kernel_rfl) (by kernel_rfl) rfl hS (ab rfl) ?_
 refine ai 8 rfl rfl (by kernel_rfl) (by kernel_rfl) (by kernel_rfl) rfl hS (bT rfl rfl) ?_
 refine ai 9 rfl rfl (by kernel_rfl) (by kernel_rfl) (by kernel_rfl) rfl hS (aX rfl rfl) ?_
 refine ai 10 rfl rfl (by kernel_rfl) (by kernel_rfl) (by kernel_rfl) rfl hS (ab rfl) ?_
 refine jj (t := 66) rfl ?_ ?_
 intro g9_11
 exact absurd g9_11 (by decide)
 intro g9_11
 refine ai 11 rfl rfl (by kernel_rfl) (by kernel_rfl) (by kernel_rfl) rfl hS (ab rfl) ?_
 refine ai 12 rfl rfl (by kernel_rfl) (by kernel_rfl) (by kernel_rfl) rfl hS (aI rfl) ?_
 refine ai 13 rfl rfl (by kernel_rfl) (by kernel_rfl) (by kernel_rfl) rfl hS (ar rfl eJ rfl fw rfl (by first | exact Nat.zero_add _ | rfl)) ?_
 refine ai 14 rfl rfl (by kernel_rfl) (by kernel_rfl) (by kernel_rfl) rfl hS (ap gk rfl (by first | exact aU (k := 0) rfl rfl | exact aU (k := 1) rfl rfl)) ?_
 refine ai 17 rfl rfl (by kernel_rfl) (by kernel_rfl) (by kernel_rfl) rfl hS (ar rfl ge rfl aC rfl (by first | exact Nat.zero_add _ | rfl)) ?_
 refine ai 18 rfl rfl (by kernel_rfl) (by kernel_rfl) (by kernel_rfl) rfl hS (ap aM rfl (by first | exact aU (k := 0) rfl rfl | exact aU (k := 1) rfl rfl)) ?_
 refine b0 15 (by kernel_rfl) rfl rfl (aF fH rfl (fC m.hv c m.ho m.a m.cap m.tb m.ib 0)) rfl ?_; clear hS
 rintro _ B_ ⟨rfl, hB_⟩
 obtain rfl := hB_.symm
 refine ⟨(aE (aE aH)), fun hS => ?_⟩
 refine b0 16 (by kernel_rfl) rfl rfl (aF ny rfl (lK m.ho c m.ps m.pb m.db m.qb m.gb)) rfl ?_; clear hS
 rintro _ B_ ⟨rfl, hB_⟩
 obtain rfl := hB_.symm
 refine ⟨(aE (aE aH)), fun hS => ?_⟩
 refine b0 19 (by kernel_rfl) rfl rfl (aF xR rfl (rY W0 _ m.pb m.ps (dm c) f w3)) rfl ?_; clear hS
 rintro _ B_ ⟨rfl, hB_⟩
 obtain rfl := hB_.symm
 rw [w9]
 refine ⟨(aE (aE aH)), fun hS => ?_⟩
 refine ai 20 rfl rfl (by kernel_rfl) (by kernel_rfl) (by kernel_rfl) rfl hS (bM rfl) ?_
 refine ai 21 rfl rfl (by kernel_rfl) (by kernel_rfl) (by kernel_rfl) rfl hS (aX rfl rfl) ?_
 refine cm (by kernel_rfl) ?_; clear hS
 refine a8 ?_
 refine au rfl ?_ ?_
 intro c9
 exact absurd c9 (by decide)
 intro c9
 refine aA (a8 (ae (a7 rfl (ab rfl) ?_)))
 refine a7 rfl (ar rfl ge rfl aC rfl (by first | exact Nat.zero_add _ | rfl)) ?_
 refine a7 rfl (ap aM rfl (az rfl)) ?_
 refine a7 rfl (ab rfl) (bc (uU jX dF rfl rfl rfl) ?_)
 rintro _ _ rfl
 refine ac (bw (a8 (ae ?_)))
 refine a7 rfl (bz rfl rfl (by first | exact aT (by omega) | rfl)) ?_
 refine a7 rfl (ab rfl) (ac (a8 ?_))
 refine cg (k + 1) ?_ ?_ ?_ ?_
 omega
 omega
 · repeat (first | exact aQ | refine aO rfl ?_)
 rw [w6, w2]
 exact inferInstance
 intro c3
 refine bF (aR (aR (bH (a8 (aa (ae (a7 rfl (ab rfl) (a7 rfl (ag rfl) (a7 rfl (ag rfl) (ac (a8 (ao (ak (.inl rfl) (.cons (aj rfl) (.cons (aj rfl) .nil)) ?_)))))))))))))
 obtain rfl : k = L.length := by omega
 exact ⟨_, ⟨bm, rfl, rfl⟩, inferInstance⟩
theorem DO (hn : c.nl.length = 0) (k : Nat) (R : List HP) : ax Tryz.prog W0 145 [pV lk, .int .i64 ((0 : Nat) : Int), .int .i64 k] (pt lk (bE m.hv c) :: R) (fun v B => v = .tuple #[.agg (gr (0, 0)).toArray, .bool false] ∧ B = pt lk (bE m.hv c) :: R) := by
 refine aB func145 ntmps145 rfl rfl ?_
 refine aa (ae (ah rfl (cH iN) ?_))
 rintro _ _ ⟨b1, rfl, rfl⟩
 refine a7 rfl (ag rfl) (ac (a8 (aa (aa (ae (a7 rfl (ab rfl) (a7 rfl (ab rfl) (a7 rfl (aI rfl) ?_))))))))
 refine a7 rfl (ar rfl eJ rfl ce rfl (by first | exact Nat.zero_add _ | rfl)) ?_
 refine a7 rfl (ar rfl bW rfl jP rfl (by first | exact Nat.zero_add _ | rfl)) ?_
 refine a7 rfl (ap kF rfl (az rfl)) ?_
 refine a7 rfl (aY jQ rfl) (a7 rfl (dr rfl rfl) (ac (a8 ?_)))
 refine au rfl ?_ ?_
 intro c1
 refine aa (ae (a7 rfl (cq ge iN (aK aC (aK aC cp)) co) ?_))
 refine bc (cD eH rfl rfl rfl rfl rfl) ?_
 rintro _ _ rfl
 refine a7 rfl (ag rfl) (ac (a8 (ao (aJ (ak (.inl rfl) (.cons (ig jK eH rfl rfl) (.cons (aj rfl) .nil)) ?_)))))
 exact ⟨_, ⟨rfl, rfl⟩, inferInstance⟩
 intro c1
 omega
def pr (c : Cfg) : Prop := ∀ k : Nat, k < 4 → cr (f6 c) ((8 + k : Nat) : Int) = false ∧ du (f6 c) ((8 + k : Nat) : Int) = (0, 0)
theorem DT {b1 : Nat} (h : OwnOk c) (hn : c.nl.length = 0) (hr : pr c) : ax Tryz.prog W0 141 ([] ++ [.int .i64 ((0 : Nat) : Int), pV m.z.g] ++ [pV b1]) (pt lk (bE m.hv c) :: bn m c fr (pt b1 (am [pV lk] 78) :: X)) (fun v B => v = .bool true ∧ B = pt lk (bE m.hv c) :: bn m c fr (pt b1 (am [pV lk] 78) :: X)) := by
 refine aB func141 ntmps141 rfl rfl ?_
 refine aa (ae (a7 rfl (ag rfl) (ac (a8 (aa (aa (ae (a7 rfl (ap i9 rfl (az rfl)) ?_))))))))
 refine a7 rfl (ab rfl) (a7 rfl (ab rfl) (ah rfl (fc (B := pt lk (bE m.hv c) :: bn m c fr (pt b1 (am [pV lk] 78) :: X)) inferInstance (aS call142 rfl (wG h))) ?_))
 rintro _ B_ ⟨bm, rfl, hB_⟩
 obtain rfl := hB_.symm
 refine a7 rfl (ab rfl) (a7 rfl (aW rfl rfl) (a7 rfl (aW rfl rfl) (a7 rfl (ag rfl) (a7 rfl (ag rfl) (ac (a8 (aa (ae (a7 rfl (ab rfl) (a7 rfl (bM rfl) (ac (a8 ?_))))))))))))
 refine au rfl ?_ ?_
 intro c2
 exact absurd c2 (by decide)
 intro c2
 refine aA (a8 (aa (aa (ae (a7 rfl (ab rfl) (ac (a8 (aP ?_))))))))
 refine bX (fun k : Nat => k ≤ 4) (fun k => [(0, .int .i64 ((0 : Nat) : Int)), (1, pV m.z.g), (2, pV b1), (22, .int .i64 k)]) (fun k => pt lk (bE m.hv c) :: bn m c fr (pt b1 (am [pV lk] 78) :: X)) (fun k => 4 - k) 0 ?_ ?_ ?_ ?_
 exact Nat.zero_le _
 · repeat (first | exact aQ | refine aO rfl ?_)
 exact inferInstance
 intro k hk
 refine aa (ae (a7 rfl (aV rfl rfl) (ac (a8 (aa ?_)))))
 refine au rfl ?_ ?_
 intro c5
 refine aA (a8 (aa (aP (aa ?_))))
 have hk1 : k < 4 := by omega
 obtain ⟨e1, e2⟩ := hr k hk1
 refine ae (a7 rfl (ab rfl) (a7 rfl (ag rfl) (ac (a8 (aa (ae (a7 rfl (ab rfl) (ah rfl (aF xT rfl (rW W0 _ m.z c m.pb)) ?_))))))))
 rintro _ B_ ⟨rfl, hB_⟩
 obtain rfl := hB_.symm
 refine ah rfl (aF sF rfl (oM m.z.pv m.ps m.z.pm 0)) ?_
 rintro _ B_ ⟨rfl, hB_⟩
 obtain rfl := hB_.symm
 refine a7 rfl (ab rfl) ?_
 refine a7 rfl (bz rfl rfl (by rw [aT (by omega)]; omega : IntKind.wrap .i64 (8 + (k : Int)) = ((8 + k : Nat) : Int))) ?_
 refine ah rfl (aF xo rfl (qA m.z.pm (f6 c) h.pg ((8 + k : Nat) : Int))) ?_
 rintro _ B_ ⟨rfl, hB_⟩
 obtain rfl := hB_.symm
 rw [e1, e2]
 refine a7 rfl (ab rfl) (a7 rfl (aW rfl rfl) (a7 rfl (aW rfl rfl) (ah rfl (cH iN) ?_)))
 rintro _ _ ⟨b1, rfl, rfl⟩
 refine bc (cD eH rfl rfl rfl rfl rfl) ?_
 rintro _ _ rfl
 refine a7 rfl (ag rfl) (ac (a8 (aa (ae (a7 rfl (ap i9 rfl (az rfl)) ?_)))))
 refine a7 rfl (ab rfl) (a7 rfl (ab rfl) (ah rfl (aF call145 rfl (DO hn k _)) ?_))
 rintro _ B_ ⟨rfl, hB_⟩
 obtain rfl := hB_.symm
 refine a7 rfl (ab rfl) (a7 rfl (aW rfl rfl) (a7 rfl (aW rfl rfl) (ah rfl (cH iN) ?_)))
 rintro _ _ ⟨b2, rfl, rfl⟩
 refine bc (cD eH rfl rfl rfl rfl rfl) ?_
 rintro _ _ rfl
 refine a7 rfl (ag rfl) (ac (a8 (aa (ae (a7 rfl (ab rfl) (a7 rfl (ab rfl) (a7 rfl (td xS rfl rfl) ?_)))))))
 refine a7 rfl (ab rfl) ?_
 refine bJ rfl rfl rfl ?_ ?_
 intro g9_4
 exact absurd g9_4 (by decide)
 intro g9_4
 refine a7 rfl (cC jK eH rfl rfl) ?_
 refine av rfl rfl (a7 rfl (cC jK eH rfl rfl) ?_)
 refine av rfl rfl (a7 rfl (tf Tryz.eqGuardType238 rfl rfl (nJ ge Tryz.stoodInHeld238 (jd rfl aM rfl rfl (jc dF) (jd rfl aM rfl rfl (jc dF) nG)))) ?_)
 refine a7 rfl (aX rfl rfl) (ac (a8 ?_))
 refine au rfl ?_ ?_
 intro c9
 first | exact absurd c9 (by decide) | (simp at c9)
 intro c9
 refine aA (bw (a8 (ae ?_)))
 refine a7 rfl (bz rfl rfl (by first | exact aT (by omega) | rfl)) ?_
 refine a7 rfl (ab rfl) (ac (a8 ?_))
 refine cg (k + 1) ?_ ?_ ?_ ?_
 omega
 omega
 · repeat (first | exact aQ | refine aO rfl ?_)
 exact inferInstance
 intro c5
 refine bF (aR (aR (bH (a8 (aa (ae (a7 rfl (ag rfl) (ac (a8 (ao (ak (.inl rfl) (.cons (aj rfl) .nil) ?_)))))))))))
 exact ⟨_, ⟨rfl, rfl⟩, inferInstance⟩
theorem DU (h : OwnOk c) (hn : c.nl.length = 0) (hr : pr c) : ax Tryz.prog W0 61 [pV lk] (pt lk (bE m.hv c) :: bn m c fr X) (fun v B => v = .bool true ∧ B = pt lk (bE m.hv c) :: bn m c fr X) := by
  refine aB func61 ntmps61 rfl rfl ?_
  refine aa (ae (ah rfl (eW rfl rfl) ?_))
  rintro _ _ ⟨b1, rfl, rfl⟩
  refine a7 rfl (ag rfl) (ac (a8 (aa (ae (a7 rfl (ap i9 rfl (az rfl)) ?_)))))
  refine a7 rfl (dz rfl rfl) ?_
  refine ah rfl (fc (B := pt lk (bE m.hv c) :: bn m c fr (pt b1 (am [pV lk] 78) :: X)) inferInstance (aS pW rfl (n1 141 [pV b1] true call141 (DT h hn hr)))) ?_
  rintro _ B_ ⟨rfl, hB_⟩
  obtain rfl := hB_.symm
  refine a7 rfl (ag rfl) (ac (a8 (ao (ak (.inl rfl) (.cons (aj rfl) .nil) ?_))))
  exact ⟨_, ⟨rfl, rfl⟩, inferInstance⟩
-- rule 3
def gH (O : Int → Option Value) : Nat → Int → Option Value
 | 0 => fun _ => none
 | k + 1 => if (O ((k : Nat) : Int)).isSome = true then km (gH O k) ((k : Nat) : Int) (some (nI 1)) else gH O k
theorem DV {b1 b3 bu : Nat} (h : OwnOk c) (hfl : fr.length ≤ 1000) : ax Tryz.prog W0 146 ([] ++ [.int .i64 ((0 : Nat) : Int), pV m.z.g] ++ [pV b1, pV b3]) (pt lk (bE m.hv c) :: bn m c fr (pt b1 (am [pV lk] 78) :: pt b3 (am [.map (some bu)] 291) :: da bu (fun _ => none) :: X))
    (fun v B => v = .bool true ∧ B = pt lk (bE m.hv c) :: bn m c fr (pt b1 (am [pV lk] 78) :: pt b3 (am [.map (some bu)] 291) :: da bu (gH (f8 c) fr.length) :: X)) := by
 refine aB func146 ntmps146 rfl rfl ?_
 refine aa (ae (a7 rfl (ag rfl) (ac (a8 (aa (ae (a7 rfl (ap i9 rfl (az rfl)) ?_)))))))
 refine a7 rfl (ab rfl) (a7 rfl (ab rfl) ?_)
 refine ah rfl (fc (B := pt lk (bE m.hv c) :: bn m c fr (pt b1 (am [pV lk] 78) :: pt b3 (am [.map (some bu)] 291) :: da bu (fun _ => none) :: X)) inferInstance (aS call142 rfl (wG h))) ?_
 rintro _ B_ ⟨bm, rfl, hB_⟩
 obtain rfl := hB_.symm
 refine a7 rfl (ab rfl) (a7 rfl (aW rfl rfl) (a7 rfl (aW rfl rfl) (a7 rfl (ag rfl) (a7 rfl (ag rfl) (ac (a8 (aa (aa (ae (a7 rfl (ap i9 rfl (az rfl)) ?_))))))))))
 refine a7 rfl (aI rfl) ?_
 refine a7 rfl (ar rfl eJ rfl fw rfl (by first | exact Nat.zero_add _ | rfl)) ?_
 refine a7 rfl (ap gk rfl (az rfl)) ?_
 refine ah rfl (aF fH rfl (fC m.hv c m.ho m.a m.cap m.tb m.ib 0)) ?_
 rintro _ B_ ⟨rfl, hB_⟩
 obtain rfl := hB_.symm
 refine ah rfl (aF pP rfl (mQ m.ho c m.ps m.pb m.db m.qb m.gb)) ?_
 rintro _ B_ ⟨rfl, hB_⟩
 obtain rfl := hB_.symm
 refine ah rfl (aF kE rfl (jo W0 _ m.ps fr)) ?_
 rintro _ B_ ⟨rfl, hB_⟩
 obtain rfl := hB_.symm
 refine a7 rfl (ab rfl) (ac (a8 (aP ?_)))
 refine bX (fun k : Nat => k ≤ fr.length) (fun k => [(0, .int .i64 ((0 : Nat) : Int)), (3, pV b3), (7, .map (some bm)), (25, .int .i64 (fr.length : Nat)), (26, .int .i64 k)]) (fun k => da bm (f8 c) :: pt lk (bE m.hv c) :: bn m c fr (pt b1 (am [pV lk] 78) :: pt b3 (am [.map (some bu)] 291) :: da bu (gH (f8 c) k) :: X)) (fun k => fr.length - k) 0 ?_ ?_ ?_ ?_
 exact Nat.zero_le _
 · repeat (first | exact aQ | refine aO rfl ?_)
 show Ent _ (da bm (f8 c) :: pt lk (bE m.hv c) :: bn m c fr (pt b1 (am [pV lk] 78) :: pt b3 (am [.map (some bu)] 291) :: da bu (fun _ => none) :: X))
 exact inferInstance
 intro k hk
 refine aa (ae (a7 rfl (aV rfl rfl) (ac (a8 (aa ?_)))))
 refine au rfl ?_ ?_
 intro c3
 refine aA (a8 ?_)
 refine gQ (fun _ : Unit => k < fr.length) (fun _ => [(0, .int .i64 ((0 : Nat) : Int)), (3, pV b3), (7, .map (some bm)), (25, .int .i64 (fr.length : Nat)), (26, .int .i64 k)]) (fun _ => da bm (f8 c) :: pt lk (bE m.hv c) :: bn m c fr (pt b1 (am [pV lk] 78) :: pt b3 (am [.map (some bu)] 291) :: da bu (gH (f8 c) (k + 1)) :: X)) ?_ ?_
 skip
 refine aP (aa ?_)
 have hk1 : k < fr.length := by omega
 refine ae (a7 rfl (ab rfl) (a7 rfl (ag rfl) (ac (a8 (aa (ae (a7 rfl (ab rfl) (a7 rfl (ab rfl) (a7 rfl (wC (b := bm) (f := f8 c) (k := (k : Int)) (v := (f8 c (k : Int)).getD (.int .i64 0)) (o := (f8 c (k : Int)).isSome) jX dF f9 rfl rfl rfl rfl) ?_)))))))))
 refine a7 rfl (ab rfl) (a7 rfl (aW rfl rfl) (a7 rfl (aW rfl rfl) (a7 rfl (ag rfl) (a7 rfl (ag rfl) (ac (a8 (aa (ae (a7 rfl (ab rfl) (ac (a8 ?_)))))))))))
 refine au rfl ?_ ?_
 intro c6
 refine ae (a7 rfl (ap xU rfl (az rfl)) ?_)
 refine a7 rfl (ab rfl) (a7 rfl (ab rfl) (a7 rfl (bz rfl rfl (r := 1) rfl) ?_))
 refine bc (uU jX dF rfl rfl rfl) ?_
 rintro _ _ rfl
 refine ac (bw (a8 ?_))
 refine dG () ?_ ?_ ?_
 exact hk1
 · repeat (first | exact aQ | refine aO rfl ?_)
 rw [gH, if_pos (by simpa using c6)]
 exact inferInstance
 intro c6
 refine aA (bw (a8 ?_))
 refine dG () ?_ ?_ ?_
 exact hk1
 · repeat (first | exact aQ | refine aO rfl ?_)
 rw [gH, if_neg (by simpa using c6)]
 exact inferInstance
 intro _ hk1
 refine ae ?_
 refine a7 rfl (bz rfl rfl (by first | exact aT (by omega) | rfl)) ?_
 refine a7 rfl (ab rfl) (ac (a8 ?_))
 refine cg (k + 1) ?_ ?_ ?_ ?_
 omega
 omega
 · repeat (first | exact aQ | refine aO rfl ?_)
 exact inferInstance
 intro c3
 refine bF (aR (aR (bH (a8 (aa (ae (a7 rfl (ag rfl) (ac (a8 (ao (ak (.inl rfl) (.cons (aj rfl) .nil) ?_)))))))))))
 obtain rfl : k = fr.length := by omega
 exact ⟨_, ⟨rfl, rfl⟩, inferInstance⟩
end
def Zo (o : Obj) (p : Option Addr) (A : List HP) : Prop := p = none ∨ ∃ b, p = some ⟨b, 0, none⟩ ∧ Ent A [pt b o]
theorem Zo.cons {o : Obj} {p : Option Addr} {A : List HP} {c : HP} (h : Zo o p A) : Zo o p (c :: A) := by
 rcases h with h | ⟨b, h1, h2⟩
 exact .inl h
 exact .inr ⟨b, h1, Ent.drop.trans h2⟩
theorem DW {W0 : World} {A : List HP} {b off ty : Nat} {l : List Value} {v : Value} (h : Ent A [pt b (am l ty)]) (hv : l[off]? = some v) : fb (bj W0 A) b off v :=
  fb.weak (B := [pt b (am l ty)]) (az (R := []) hv)
abbrev ir : Obj := am [.int .i64 0, .slice none 0 0, .slice none 0 0, .slice none 0 0, .slice none 0 0, .slice none 0 0, .int .i64 0, .int .i64 0, .pointer none, .slice none 0 0, .pointer none, .pointer none, .int .i64 0] 35
theorem DY (W0 : World) (A : List HP) (p : Option Addr) (h : Zo ir p A) : ax Tryz.prog W0 59 [.pointer p] A (fun v B => v = .bool true ∧ B = A) := by
 rcases h with rfl | ⟨b, rfl, h⟩
 skip
 refine aB xN ntmps59 rfl rfl ?_
 refine aa (ae (a7 rfl (ag rfl) (ac (a8 (aa (ae (a7 rfl (ab rfl) (a7 rfl (dx sT rfl rfl) (a7 rfl (ab rfl) ?_)))))))))
 refine bJ rfl rfl rfl ?_ ?_
 intro g1_3
 refine aD rfl rfl rfl rfl (aD rfl rfl rfl rfl (aD rfl rfl rfl rfl (aD rfl rfl rfl rfl (a7 rfl (bI rfl rfl) (a7 rfl (ag rfl) (ac (a8 (ao (ak (.inl rfl) (.cons (aj rfl) .nil) ?_)))))))))
 exact ⟨_, ⟨rfl, rfl⟩, inferInstance⟩
 intro g1_3
 exact absurd rfl g1_3
 skip
 refine aB xN ntmps59 rfl rfl ?_
 refine aa (ae (a7 rfl (ag rfl) (ac (a8 (aa (ae (a7 rfl (ab rfl) (a7 rfl (dx sT rfl rfl) (a7 rfl (ab rfl) ?_)))))))))
 refine bJ rfl rfl rfl ?_ ?_
 intro g1_3
 cases g1_3
 intro g1_3
 refine a7 rfl (ab rfl) (av rfl rfl (a7 rfl (aI rfl) (av rfl rfl ?_)))
 refine a7 rfl (ar rfl kN rfl pS rfl (by first | exact Nat.zero_add _ | rfl)) ?_
 refine av rfl rfl (a7 rfl (ap pT rfl (DW h rfl)) ?_)
 refine av rfl rfl (a7 rfl (dx xO rfl rfl) (a7 rfl (aX rfl rfl) (a7 rfl (ag rfl) (ac (a8 (ao (ak (.inl rfl) (.cons (aj rfl) .nil) ?_)))))))
 exact ⟨_, ⟨rfl, rfl⟩, inferInstance⟩
theorem DZ (W0 : World) (A : List HP) (p : Option Addr) (h : Zo ir p A) : ax Tryz.prog W0 26 [.pointer p] A (fun v B => v = .pointer none ∧ B = A) := by
 refine aB func26 ntmps26 rfl rfl ?_
 refine aa (ae (a7 rfl (ag rfl) (ac (a8 (aa (aa (ae (a7 rfl (ab rfl) (ah rfl (aS pU rfl (DY W0 _ p h)) ?_)))))))))
 rintro _ B_ ⟨rfl, hB_⟩
 obtain rfl := hB_.symm
 refine ac (a8 ?_)
 refine au rfl ?_ ?_
 intro c1
 refine aa (ae (a7 rfl (ag rfl) (ac (a8 (ao (aJ (ak (.inl rfl) (.cons (aj rfl) .nil) ?_)))))))
 exact ⟨_, ⟨rfl, rfl⟩, inferInstance⟩
 intro c1
 exact absurd rfl c1
theorem n2 {F : Fence} {n : Nat} {P : Program} {fn : Func} {tmps : Array Value} {R R' : Ending → World → Prop} (hR : ∀ e w, R e w → R' e w) :
    ∀ (ds : List Deferred) (u : FrameMode) (w : World), LeavesInM F n P fn tmps R ds u w → LeavesInM F n P fn tmps R' ds u w
 | [], .returning, w, h => by
  obtain ⟨v, h1, h2⟩ := (show ∃ v, (results fn tmps).run P w = .ok v w ∧ R (.returned v) w from h)
  exact ⟨v, h1, hR _ _ h2⟩
 | [], .panicking c, w, h => hR _ _ h
 | [], .run, w, h => h
 | d :: ds, u, w, h => by
  obtain ⟨hu, h⟩ := h
  refine ⟨hu, ?_⟩
  rcases h with ⟨r, w', h1, h2, h3⟩ | ⟨h0, fv, cap, f, args, h1, h2, h3, h4⟩
  exact .inl ⟨r, w', h1, h2, n2 hR ds u w' h3⟩
  refine .inr ⟨h0, fv, cap, f, args, h1, h2, h3, h4.mono ?_⟩
  intro e u' w' he
  cases e with
  | returned v => exact n2 hR ds _ _ he
  | panicked c => exact n2 hR ds _ _ he
  | outgrown => exact hR _ _ he
theorem E0 {P : Program} {o : Oper} {a : Act} {K K' : Act → World → Prop} {Q Q' : Exit → Act → World → Prop} (hk : ∀ a w, K a w → K' a w) (hq : ∀ e a w, Q e a w → Q' e a w) :
    ∀ {r : Result Next}, o.upon P a K Q r → o.upon P a K' Q' r
 | .ok (.value v) w, h => hk _ _ h
 | .ok .skip w, h => hk _ _ h
 | .ok (.defer d) w, h => hk _ _ h
 | .ok (.enter f args) w, h => Calls.mono (show Calls P f args w _ from h) (by
     intro e w' he
     cases e with
     | returned v => exact hk _ _ he
     | panicked c => exact hq _ _ _ he
     | outgrown => exact Exists.elim he fun a h => Exists.elim h fun w h => ⟨a, w, hq _ _ _ h⟩)
 | .ok (.row row args) w, h => Rows.mono (show Rows P row args w _ from h) (fun v w' he => hk _ _ he)
 | .halt (.panic v) w, h => hq _ _ _ h
theorem E1 {rd : Option Nat} {P : Program} {o : Oper} {a : Act} {K K' : Act → World → Prop} {Q Q' : Exit → Act → World → Prop} (hk : ∀ a w, K a w → K' a w) (hq : ∀ e a w, Q e a w → Q' e a w) :
    ∀ {r : Result Next}, o.uponIn (FW rd) 0 P a K Q r → o.uponIn (FW rd) 0 P a K' Q' r
 | .ok (.value v) w, h => hk _ _ h
 | .ok .skip w, h => hk _ _ h
 | .ok (.defer d) w, h => hk _ _ h
 | .ok (.enter f args) w, h => ⟨h.1, CallsIn.mono h.2 (by
     intro e w' he
     cases e with
     | returned v => exact hk _ _ he
     | panicked c => exact hq _ _ _ he
     | outgrown => exact Exists.elim he fun a h => Exists.elim h fun w h => ⟨a, w, hq _ _ _ h⟩)⟩
 | .ok (.row row args) w, h => ⟨h.1, RowsIn.mono h.2 (fun v w' he => hk _ _ he)⟩
 | .ok (.round l f tmps assign body) w, h => ⟨h.1, RoundIn.mono h.2 (by
     intro e w' he
     cases e with
     | returned v => exact hk _ _ he
     | panicked c => exact hq _ _ _ he
     | outgrown => exact Exists.elim he fun a h => Exists.elim h fun w h => ⟨a, w, hq _ _ _ h⟩)⟩
 | .halt (.panic v) w, h => hq _ _ _ h
theorem pu {rd : Option Nat} {P : Program} {ops : Array Oper} {Q Q' : Exit → Act → World → Prop} (hq : ∀ e a w, Q e a w → Q' e a w) : ∀ (l : List Oper) (a : Act) (w : World), cz rd P ops Q l a w → cz rd P ops Q' l a w
 | [], a, w, h => hq _ _ _ h
 | o :: l, a, w, h => by
  simp only [cz] at h ⊢
  split at h
  rename_i hw
  rw [if_pos hw]
  rcases h with h | h
  exact .inl (E0 (fun a w k => pu hq l a w k) hq h)
  exact .inr ⟨h.1, E1 (fun a w k => pu hq l a w k) hq h.2⟩
  rename_i hw
  rw [if_neg hw]
  exact pu hq l _ _ h
theorem E2 {P : Program} {W0 w : World} {fn : Func} {Post Post' : Value → List HP → Prop} {A : List HP} (hO : Own W0 w A) (hP : ∀ v B, Post' v B → ∃ B', Post v B' ∧ Ent (B ++ A) B') :
    ∀ (ex : Exit) (a : Act) (w' : World), ie P w fn Post' ex a w' → ie P W0 fn Post ex a w' := by
 have hR : ∀ (e : Ending) (w' : World), (∃ v B, e = .returned v ∧ Post' v B ∧ Own w w' B) → ∃ v B, e = .returned v ∧ Post v B ∧ Own W0 w' B := by
  rintro e w' ⟨v, B, rfl, hp, hO'⟩
  obtain ⟨B', h1, h2⟩ := hP v B hp
  exact ⟨v, B', rfl, h1, (hO.step hO').ent h2⟩
 intro ex a w' h
 cases ex with
 | normal => exact n2 hR _ _ _ h
 | ret => exact n2 hR _ _ _ h
 | exit id => exact h
 | goto l => exact h
 | panic c => exact h
 | outgrown => exact h
theorem E3 {P : Program} {W0 : World} {N : FSz} {ops : Array Oper} {l : List Oper} {y : Code} {fn : Func} {Post : Value → List HP → Prop} (Post' : Value → List HP → Prop) {e : bq} {A : List HP}
    (hP : ∀ v B, Post' v B → ∃ B', Post v B' ∧ Ent (B ++ A) B') (h : ∀ W, Own W0 W A → aG W N (cz none P ops (Exit.then (y.wpR none P (ie P W fn Post')) (ie P W fn Post')) l) e []) :
    aG W0 N (cz none P ops (Exit.then (y.wpR none P (ie P W0 fn Post)) (ie P W0 fn Post)) l) e A := by
 intro a w hF hO
 have hm := E2 (P := P) (fn := fn) hO hP
 refine pu ?_ _ _ _ (h w hO a w hF (Own.refl w))
 intro ex a' w' hq
 cases ex with
 | normal => exact Code.wpIn_mono hm hq
 | ret => exact hm .ret a' w' hq
 | exit id => exact hm (.exit id) a' w' hq
 | goto l => exact hm (.goto l) a' w' hq
 | panic c => exact hm (.panic c) a' w' hq
 | outgrown => exact hm .outgrown a' w' hq
theorem E4 {X R : List HP} : Ent (X ++ R) R := ⟨fun l hl => by
 obtain ⟨l1, l2, rfl, _, hs⟩ := dX.append.1 hl
 exact ⟨l2, l1, hs, List.perm_append_comm⟩⟩
def pw (O : Int → Option Value) : Nat → Int → Int
 | 0 => fun _ => 0
 | k + 1 => fun x => if (O ((k : Nat) : Int)).isSome = true ∧ x = ((k : Nat) : Int) then 1 else pw O k x
theorem wH (O : Int → Option Value) : ∀ (k : Nat) (x : Int), (gH O k x).getD (.int .i64 0) = .int .i64 (pw O k x)
 | 0, x => rfl
 | k + 1, x => by
  have ih := wH O k x
  rw [gH]
  show _ = Value.int .i64 (if (O ((k : Nat) : Int)).isSome = true ∧ x = ((k : Nat) : Int) then 1 else pw O k x)
  by_cases h : (O ((k : Nat) : Int)).isSome = true
  rw [if_pos h]
  by_cases q : x = ((k : Nat) : Int)
  rw [km, if_pos q, if_pos ⟨h, q⟩]; rfl
  rw [km, if_neg q, if_neg (fun z => q z.2)]; exact ih
  rw [if_neg h, if_neg (fun z => h z.1)]; exact ih
section
variable {W0 : World} {m : Mz} {c : Cfg} {fr : List aZ} {lk : Nat} {X Y : List HP}
def lP (c : Cfg) (n f : Nat) : Bool := !(cG (dm c) f).2 || (pw (f8 c) n ((f : Nat) : Int) == (dw c f).2 + 1)
theorem E5 {b1 b3 bu n : Nat} (f : Nat) (hf : f < (dm c).length) (hb : 0 ≤ (dw c f).2 ∧ (dw c f).2 < 100) :
    ax Tryz.prog W0 147 ([] ++ [.int .i64 f, .agg (lI (dw c f)).toArray] ++ [pV b1, pV b3]) (pt lk (bE m.hv c) :: bn m c fr (pt b1 (am [pV lk] 78) :: pt b3 (am [.map (some bu)] 291) :: da bu (gH (f8 c) n) :: X))
      (fun v B => v = .bool (lP c n f) ∧ B = pt lk (bE m.hv c) :: bn m c fr (pt b1 (am [pV lk] 78) :: pt b3 (am [.map (some bu)] 291) :: da bu (gH (f8 c) n) :: X)) := by
 refine aB func147 ntmps147 rfl rfl ?_
 refine aa (ae (ah rfl (bL rfl) ?_))
 rintro _ _ ⟨b5, rfl, rfl⟩
 refine a7 rfl (ag rfl) (ac (a8 (aa (ae (a7 rfl (ap i9 rfl (az rfl)) ?_)))))
 refine a7 rfl (aI rfl) ?_
 refine a7 rfl (ar rfl eJ rfl fw rfl (by first | exact Nat.zero_add _ | rfl)) ?_
 refine a7 rfl (ap gk rfl (az rfl)) ?_
 refine ah rfl (aF fH rfl (fC m.hv c m.ho m.a m.cap m.tb m.ib 0)) ?_
 rintro _ B_ ⟨rfl, hB_⟩
 obtain rfl := hB_.symm
 refine ah rfl (aF ny rfl (lK m.ho c m.ps m.pb m.db m.qb m.gb)) ?_
 rintro _ B_ ⟨rfl, hB_⟩
 obtain rfl := hB_.symm
 refine a7 rfl (ab rfl) (ah rfl (aF xR rfl (rY W0 _ m.pb m.ps (dm c) f hf)) ?_)
 rintro _ B_ ⟨rfl, hB_⟩
 obtain rfl := hB_.symm
 refine a7 rfl (bM rfl) (a7 rfl (ab rfl) ?_)
 refine bJ rfl rfl rfl ?_ ?_
 intro g1_10
 refine aD rfl rfl rfl rfl (aD rfl rfl rfl rfl (aD rfl rfl rfl rfl (aD rfl rfl rfl rfl (aD rfl rfl rfl rfl (aD rfl rfl rfl rfl (a7 rfl (bI rfl rfl) (a7 rfl (ag rfl) (ac (a8 (ao (ak (.inl rfl) (.cons (aj rfl) .nil) ?_)))))))))))
 refine ⟨_, ⟨?_, rfl⟩, inferInstance⟩
 refine congrArg Value.bool ?_
 simp_all [lP]
 intro g1_10
 refine a7 rfl (ap xU rfl (az rfl)) ?_
 refine av rfl rfl (a7 rfl (ab rfl) (av rfl rfl (a7 rfl (ly (b := bu) (f := gH (f8 c) n) (k := (f : Int)) jX dF f9 rfl rfl (wH (f8 c) n (f : Int))) ?_)))
 refine av rfl rfl ?_
 refine a7 rfl (ar rfl iQ rfl aC rfl (by first | exact Nat.zero_add _ | rfl)) ?_
 refine av rfl rfl (a7 rfl (ap aM rfl (az rfl)) ?_)
 refine av rfl rfl ?_
 refine a7 rfl (bz rfl rfl (aT (by omega))) ?_
 refine av rfl rfl (a7 rfl (cu rfl rfl) (a7 rfl (aX rfl rfl) (a7 rfl (ag rfl) (ac (a8 (ao (ak (.inl rfl) (.cons (aj rfl) .nil) ?_)))))))
 refine ⟨_, ⟨?_, rfl⟩, inferInstance⟩
 refine congrArg Value.bool ?_
 simp_all [lP]
theorem E6 (h : CfK W0 c) (hfl : fr.length ≤ 1000) (hO : OwnOk c) (hl : fr.length = (dm c).length) (hb : ∀ f, f < fr.length → 0 ≤ (dw c f).2 ∧ (dw c f).2 < 100) : ax Tryz.prog W0 62 [pV lk] (pt lk (bE m.hv c) :: bn m c fr X) (fun v B => v = .bool (i3 (lP c fr.length) fr.length) ∧ B = pt lk (bE m.hv c) :: bn m c fr X) := by
  refine aB func62 ntmps62 rfl rfl ?_
  refine aa (ae (ah rfl (eW rfl rfl) ?_))
  rintro _ _ ⟨b1, rfl, rfl⟩
  refine a7 rfl (ag rfl) (ac (a8 (aa (ae (ah rfl (mF) ?_)))))
  rintro _ _ ⟨bu, rfl, rfl⟩
  refine ah rfl (ia EN rfl) ?_
  rintro _ _ ⟨b3, rfl, rfl⟩
  refine bc (ck sizeOf291 rfl rfl rfl (Nat.le_of_ble_eq_true rfl) SetL.eq) ?_
  rintro _ _ rfl
  refine ac (a8 (aa (ae (a7 rfl (ap i9 rfl (az rfl)) ?_))))
  refine a7 rfl (dz rfl rfl) ?_
  refine ah rfl (fc (B := pt lk (bE m.hv c) :: bn m c fr (pt b1 (am [pV lk] 78) :: pt b3 (am [.map (some bu)] 291) :: da bu (fun _ => none) :: X)) inferInstance (aS pW rfl (n1 146 [pV b1, pV b3] true call146 (DV hO hfl)))) ?_
  rintro _ B_ ⟨rfl, hB_⟩
  obtain rfl := hB_.symm
  refine ac (a8 (aa (ae (a7 rfl (ap i9 rfl (az rfl)) ?_))))
  refine a7 rfl (dz rfl rfl) ?_
  refine ah rfl (fc (B := pt lk (bE m.hv c) :: bn m c fr (pt b1 (am [pV lk] 78) :: pt b3 (am [.map (some bu)] 291) :: da bu (gH (f8 c) fr.length) :: X)) inferInstance (aS xQ rfl (rZ h hfl 147 [pV b1, pV b3] (lP c fr.length) call147 fun f hf => E5 f (by omega) (hb f hf)))) ?_
  rintro _ B_ ⟨rfl, hB_⟩
  obtain rfl := hB_.symm
  refine a7 rfl (ag rfl) (ac (a8 (ao (ak (.inl rfl) (.cons (aj rfl) .nil) ?_))))
  exact ⟨_, ⟨rfl, rfl⟩, inferInstance⟩
-- rule 6
def fp (l : List (Int × Int)) (i : Int) : Nat → Int
 | 0 => 0
 | k + 1 => if (l.getD k (0, 0)).1 = i then fp l i k + (l.getD k (0, 0)).2 else fp l i k
theorem wI {l : List (Int × Int)} {i : Int} (h : ∀ j, j < l.length → eT (l.getD j (0, 0)) = true) : ∀ k, k ≤ l.length → 0 ≤ fp l i k ∧ fp l i k ≤ 32 * (k : Int)
 | 0, _ => ⟨Int.le_refl _, Int.le_refl _⟩
 | k + 1, hk => by
  obtain ⟨h1, h2⟩ := wI (i := i) h k (by omega)
  have := h k (by omega)
  simp only [eT, decide_eq_true_eq] at this
  rw [fp]; split <;> omega
theorem px (W0 : World) (R : List HP) (tb : Nat) (a : Option Addr) (cc : Nat) (l : List (Int × Int)) (i : Int) (h : 1 ≤ l.length) (h8 : l.length ≤ 8) (hok : ∀ j, j < l.length → eT (l.getD j (0, 0)) = true) :
    ax Tryz.prog W0 161 [pV tb, .int .i64 i] (pt tb (gE a l.length cc l l.length) :: osl 87 2 (.slice a l.length cc) (l.flatMap d5) :: R)
      (fun v B => v = .int .i64 (fp l i l.length) ∧ B = pt tb (gE a l.length cc l l.length) :: osl 87 2 (.slice a l.length cc) (l.flatMap d5) :: R) := by
 refine aB func161 ntmps161 rfl rfl ?_
 refine aa (ae (a7 rfl (ag rfl) (ac (a8 (aa (aa (ae (a7 rfl (ab rfl) (ah rfl (aF call285 rfl (wF tb a cc l h)) ?_)))))))))
 rintro _ B_ ⟨rfl, hB_⟩
 obtain rfl := hB_.symm
 refine ac (a8 ?_)
 refine au rfl ?_ ?_
 intro c1
 exact absurd c1 (by decide)
 intro c1
 refine aA (a8 (aa (ae (a7 rfl (ag rfl) (ac (a8 (aa (aa ?_))))))))
 refine eC (r := osl 87 2) (b := .slice a l.length cc) (gq (fun h1 h2 => by have := congrArg List.length h2; rw [cV (k := 2) (fun _ => rfl)] at this; simp at this; omega) fun g nn c2 sp h1 h2 h3 h4 h5 => ?_)
 cases h1
 refine ae (a7 rfl (ab rfl) (a7 rfl (aI rfl) ?_))
 refine a7 rfl (ar rfl nx rfl i6 rfl (by first | exact Nat.zero_add _ | rfl)) ?_
 refine a7 rfl (ap jO rfl (az rfl)) ?_
 refine a7 rfl (aY fF rfl) (a7 rfl (ab rfl) (ac (a8 (aP ?_))))
 refine bX (fun k : Nat => k ≤ l.length) (fun k => [(1, .int .i64 i), (5, .int .i64 (fp l i k)), (13, .slice (some ⟨g, 0, none⟩) l.length cc), (14, .int .i64 (l.length : Nat)), (15, .int .i64 k)]) (fun k => pt g (am (l.flatMap d5 ++ sp) 87) :: pt tb (gE (some ⟨g, 0, none⟩) l.length cc l l.length) :: R) (fun k => l.length - k) 0 ?_ ?_ ?_ ?_
 exact Nat.zero_le _
 · repeat (first | exact aQ | refine aO rfl ?_)
 exact inferInstance
 intro k hk
 refine aa (ae (a7 rfl (aV rfl rfl) (ac (a8 (aa ?_)))))
 refine au rfl ?_ ?_
 intro c5
 refine aA (a8 ?_)
 refine gQ (fun _ : Unit => k < l.length) (fun _ => [(1, .int .i64 i), (5, .int .i64 (fp l i (k + 1))), (13, .slice (some ⟨g, 0, none⟩) l.length cc), (14, .int .i64 (l.length : Nat)), (15, .int .i64 k)]) (fun _ => pt g (am (l.flatMap d5 ++ sp) 87) :: pt tb (gE (some ⟨g, 0, none⟩) l.length cc l l.length) :: R) ?_ ?_
 skip
 refine aP (aa ?_)
 have hk1 : k < l.length := by omega
 obtain ⟨x, hx⟩ : ∃ x, l.getD k (0, 0) = x := ⟨_, rfl⟩
 have hb := wI (i := i) hok k hk
 have hs := hok k hk1
 rw [hx] at hs
 have hs2 : 0 ≤ x.1 ∧ x.1 < 4 ∧ 1 ≤ x.2 ∧ x.2 ≤ 32 := by simpa only [eT, decide_eq_true_eq] using hs
 have hst : fp l i (k + 1) = if x.1 = i then fp l i k + x.2 else fp l i k := by rw [fp, hx]
 have hrow : ∀ j v, (d5 x)[j]? = some v → (l.flatMap d5 ++ sp)[k * 2 + j]? = some v := fun j v hv => by
  have hj : j < 2 := by
   rcases Nat.lt_or_ge j 2 with q | q
   exact q
   rw [List.getElem?_eq_none (by show 2 ≤ j; exact q)] at hv; cases hv
  rw [jk (k := 2) (f := d5) (fun _ => rfl) l k j sp hk1 hj, ← hv, ← hx]
  simp [List.getD, hk1]
 have hcells : cB (bj W0 (pt g (am (l.flatMap d5 ++ sp) 87) :: [])) g (k * 2) (d5 x) := fun j v hv => az (hrow j v hv)
 refine ae ?_
 refine a7 rfl (bK fF iw rfl rfl rfl hk1 (by first | exact Nat.zero_add _ | rfl)) ?_
 refine a7 rfl (bN sh iw rfl hcells.weak rfl) ?_
 refine ah rfl (cH pJ) ?_
 rintro _ _ ⟨b7, rfl, rfl⟩
 refine bc (cD iw rfl rfl rfl rfl rfl) ?_
 rintro _ _ rfl
 refine ac (a8 (aa (ae ?_)))
 refine a7 rfl (ar rfl iP rfl aC rfl (by first | exact Nat.zero_add _ | rfl)) ?_
 refine a7 rfl (ap aM rfl (az rfl)) ?_
 refine a7 rfl (ab rfl) (a7 rfl (cu rfl rfl) (ac (a8 ?_)))
 refine au rfl ?_ ?_
 intro c7
 refine ae (a7 rfl (ab rfl) ?_)
 refine a7 rfl (ar rfl iP rfl aC rfl (by first | exact Nat.zero_add _ | rfl)) ?_
 refine a7 rfl (ap aM rfl (az rfl)) ?_
 refine a7 rfl (bz rfl rfl (aT (by omega))) ?_
 refine a7 rfl (ag rfl) (ac (bw (a8 ?_)))
 refine dG () ?_ ?_ ?_
 exact hk1
 · rw [hst, if_pos (by simpa using c7)]
   repeat (first | exact aQ | refine aO rfl ?_)
 exact inferInstance
 intro c7
 refine aA (bw (a8 ?_))
 refine dG () ?_ ?_ ?_
 exact hk1
 · rw [hst, if_neg (by simpa using c7)]
   repeat (first | exact aQ | refine aO rfl ?_)
 exact inferInstance
 intro _ hk1
 refine ae ?_
 refine a7 rfl (bz rfl rfl (by first | exact aT (by omega) | rfl)) ?_
 refine a7 rfl (ab rfl) (ac (a8 ?_))
 refine cg (k + 1) ?_ ?_ ?_ ?_
 omega
 omega
 · repeat (first | exact aQ | refine aO rfl ?_)
 exact inferInstance
 intro c5
 refine bF (aR (aR (bH (a8 (aa (ae (a7 rfl (ab rfl) (a7 rfl (ag rfl) (ac (a8 (ao (ak (.inl rfl) (.cons (aj rfl) .nil) ?_))))))))))))
 obtain rfl : k = l.length := by omega
 exact ⟨_, ⟨rfl, rfl⟩, Ent.trans (B := osl 87 2 (.slice (some ⟨g, 0, none⟩) l.length cc) (l.flatMap d5) :: pt tb (gE (some ⟨g, 0, none⟩) l.length cc l l.length) :: R) (e7 h2 h3 h4 h5) inferInstance⟩
end
section
variable {W0 : World} {m : Mz} {c : Cfg} {fr : List aZ} {lk : Nat} {X Y : List HP}
abbrev s4 (b5 b3 b6 bu tb : Nat) (a : Option Addr) (cc : Nat) (l : List (Int × Int)) (X : List HP) : List HP := pt b5 (am [.int .i64 ((0 : Nat) : Int)] 3) :: pt b3 (am [pV tb] 32) :: pt b6 (am [.map (some bu)] 291) :: da bu (fun _ => none) :: pt tb (gE a l.length cc l l.length) :: osl 87 2 (.slice a l.length cc) (l.flatMap d5) :: X
theorem wJ {l : List (Int × Int)} (h : 1 ≤ l.length) (hok : ∀ j, j < l.length → eT (l.getD j (0, 0)) = true) : 0 < dU l l.length ∧ dU l l.length ≤ 32 * (l.length : Int) := by
 obtain ⟨k, hk⟩ : ∃ k, l.length = k + 1 := ⟨l.length - 1, by omega⟩
 have h1 := oZ hok k (by omega)
 have h2 := hok k (by omega)
 have h3 := oZ hok l.length (Nat.le_refl _)
 simp only [eT, decide_eq_true_eq] at h2
 refine ⟨?_, h3.2⟩
 rw [hk, dU]; omega
theorem E7 {b5 b3 b6 bu tb : Nat} {a : Option Addr} {cc : Nat} {l : List (Int × Int)} (h1 : 1 ≤ l.length) (h8 : l.length ≤ 8) (hok : ∀ j, j < l.length → eT (l.getD j (0, 0)) = true) :
    ax Tryz.prog W0 159 ([] ++ [.int .i64 ((0 : Nat) : Int), pV m.z.g] ++ [pV b5, pV b3, pV b6]) (pt lk (bE m.hv c) :: bn m c fr (s4 b5 b3 b6 bu tb a cc l X)) (fun v B => v = .bool true ∧ B = pt lk (bE m.hv c) :: bn m c fr (s4 b5 b3 b6 bu tb a cc l X)) := by
 obtain ⟨p1, p2⟩ := wJ h1 hok
 refine aB func159 ntmps159 rfl rfl ?_
 refine aa (ae (a7 rfl (ag rfl) (ac (a8 (aa ?_)))))
 refine di [(b5, 0, _), (b3, 0, _), (b6, 0, _)] 16 d4 rfl (aE (aE (aE aH))) (fun hS => ?_)
 refine ai 0 rfl rfl (by kernel_rfl) (by kernel_rfl) (by kernel_rfl) rfl hS (ab rfl) ?_
 refine ai 2 rfl rfl (by kernel_rfl) (by kernel_rfl) (by kernel_rfl) rfl hS (ap aM rfl (by first | exact aU (k := 0) rfl rfl | exact aU (k := 1) rfl rfl | exact aU (k := 2) rfl rfl)) ?_
 refine ai 3 rfl rfl (by kernel_rfl) (by kernel_rfl) (by kernel_rfl) rfl hS (ap pT rfl (by first | exact aU (k := 0) rfl rfl | exact aU (k := 1) rfl rfl | exact aU (k := 2) rfl rfl)) ?_
 refine ai 6 rfl rfl (by kernel_rfl) (by kernel_rfl) (by kernel_rfl) rfl hS (ap pT rfl (by first | exact aU (k := 0) rfl rfl | exact aU (k := 1) rfl rfl | exact aU (k := 2) rfl rfl)) ?_
 refine ai 7 rfl rfl (by kernel_rfl) (by kernel_rfl) (by kernel_rfl) rfl hS (ab rfl) ?_
 refine ai 10 rfl rfl (by kernel_rfl) (by kernel_rfl) (by kernel_rfl) rfl hS (ap xU rfl (by first | exact aU (k := 0) rfl rfl | exact aU (k := 1) rfl rfl | exact aU (k := 2) rfl rfl)) ?_
 refine ai 11 rfl rfl (by kernel_rfl) (by kernel_rfl) (by kernel_rfl) rfl hS (ab rfl) ?_
 refine gS (is := [1, 12]) (by kernel_rfl) rfl ⟨?_, ?_, trivial⟩
 skip
 refine dP rfl rfl (aF call160 rfl (wz W0 _ m.z c m.pb)) rfl ?_; clear hS
 rintro _ B_ ⟨rfl, hB_⟩
 obtain rfl := hB_.symm
 refine ⟨(aE (aE (aE aH))), fun hS => ?_⟩
 refine gS (is := [4, 12]) (by kernel_rfl) rfl ⟨?_, ?_, trivial⟩
 skip
 refine dP rfl rfl (aF sX rfl (pq tb a cc l h1 h8)) rfl ?_; clear hS
 rintro _ B_ ⟨rfl, hB_⟩
 obtain rfl := hB_.symm
 refine ⟨(aE (aE (aE aH))), fun hS => ?_⟩
 refine ai 5 rfl rfl (by kernel_rfl) (by kernel_rfl) (by kernel_rfl) rfl hS (m4 rfl rfl (by omega) (by rw [show Int.tdiv ((0 : Nat) : Int) (dU l l.length) = 0 by simp]; rfl : IntKind.wrap .i64 (Int.tdiv ((0 : Nat) : Int) (dU l l.length)) = 0)) ?_
 refine gS (is := [8, 12]) (by kernel_rfl) rfl ⟨?_, ?_, trivial⟩
 skip
 refine dP rfl rfl (fJ sY rfl (px W0 _ tb a cc l ((0 : Nat) : Int) h1 h8 hok)) rfl ?_; clear hS
 rintro _ B_ ⟨rfl, hB_⟩
 obtain rfl := hB_.symm
 refine ⟨(aE (aE (aE aH))), fun hS => ?_⟩
 refine ai 9 rfl rfl (by kernel_rfl) (by kernel_rfl) (by kernel_rfl) rfl hS (iy rfl rfl (by rw [Int.zero_mul]; rfl : IntKind.wrap .i64 (0 * fp l ((0 : Nat) : Int) l.length) = 0)) ?_
 refine b0 12 (by kernel_rfl) rfl rfl (df (ly (b := bu) (f := fun _ => none) (k := ((0 : Nat) : Int)) (v := .int .i64 0) jX dF f9 rfl rfl rfl)) rfl ?_; clear hS
 rintro _ _ ⟨rfl, rfl⟩
 refine ⟨(aE (aE (aE aH))), fun hS => ?_⟩
 refine ai 13 rfl rfl (by kernel_rfl) (by kernel_rfl) (by kernel_rfl) rfl hS (bz rfl rfl (r := 0) rfl) ?_
 refine ai 14 rfl rfl (by kernel_rfl) (by kernel_rfl) (by kernel_rfl) rfl hS (cu rfl rfl) ?_
 refine ai 15 rfl rfl (by kernel_rfl) (by kernel_rfl) (by kernel_rfl) rfl hS (ag rfl) ?_
 refine cm (by kernel_rfl) ?_; clear hS
 refine a8 (ao (ak (.inl rfl) (.cons (aj rfl) .nil) ?_))
 exact ⟨_, ⟨rfl, rfl⟩, inferInstance⟩
 skip
 refine dP rfl rfl (df (ly (b := bu) (f := fun _ => none) (k := ((0 : Nat) : Int)) (v := .int .i64 0) jX dF f9 rfl rfl rfl)) rfl ?_; clear hS
 rintro _ _ ⟨rfl, rfl⟩
 refine ⟨(aE (aE (aE aH))), fun hS => ?_⟩
 refine b0 8 (by kernel_rfl) rfl rfl (fJ sY rfl (px W0 _ tb a cc l ((0 : Nat) : Int) h1 h8 hok)) rfl ?_; clear hS
 rintro _ B_ ⟨rfl, hB_⟩
 obtain rfl := hB_.symm
 refine ⟨(aE (aE (aE aH))), fun hS => ?_⟩
 refine ai 9 rfl rfl (by kernel_rfl) (by kernel_rfl) (by kernel_rfl) rfl hS (iy rfl rfl (by rw [Int.zero_mul]; rfl : IntKind.wrap .i64 (0 * fp l ((0 : Nat) : Int) l.length) = 0)) ?_
 refine ai 13 rfl rfl (by kernel_rfl) (by kernel_rfl) (by kernel_rfl) rfl hS (bz rfl rfl (r := 0) rfl) ?_
 refine ai 14 rfl rfl (by kernel_rfl) (by kernel_rfl) (by kernel_rfl) rfl hS (cu rfl rfl) ?_
 refine ai 15 rfl rfl (by kernel_rfl) (by kernel_rfl) (by kernel_rfl) rfl hS (ag rfl) ?_
 refine cm (by kernel_rfl) ?_; clear hS
 refine a8 (ao (ak (.inl rfl) (.cons (aj rfl) .nil) ?_))
 exact ⟨_, ⟨rfl, rfl⟩, inferInstance⟩
 skip
 refine dP rfl rfl (df (ly (b := bu) (f := fun _ => none) (k := ((0 : Nat) : Int)) (v := .int .i64 0) jX dF f9 rfl rfl rfl)) rfl ?_; clear hS
 rintro _ _ ⟨rfl, rfl⟩
 refine ⟨(aE (aE (aE aH))), fun hS => ?_⟩
 refine b0 4 (by kernel_rfl) rfl rfl (aF sX rfl (pq tb a cc l h1 h8)) rfl ?_; clear hS
 rintro _ B_ ⟨rfl, hB_⟩
 obtain rfl := hB_.symm
 refine ⟨(aE (aE (aE aH))), fun hS => ?_⟩
 refine ai 5 rfl rfl (by kernel_rfl) (by kernel_rfl) (by kernel_rfl) rfl hS (m4 rfl rfl (by omega) (by rw [show Int.tdiv ((0 : Nat) : Int) (dU l l.length) = 0 by simp]; rfl : IntKind.wrap .i64 (Int.tdiv ((0 : Nat) : Int) (dU l l.length)) = 0)) ?_
 refine b0 8 (by kernel_rfl) rfl rfl (fJ sY rfl (px W0 _ tb a cc l ((0 : Nat) : Int) h1 h8 hok)) rfl ?_; clear hS
 rintro _ B_ ⟨rfl, hB_⟩
 obtain rfl := hB_.symm
 refine ⟨(aE (aE (aE aH))), fun hS => ?_⟩
 refine ai 9 rfl rfl (by kernel_rfl) (by kernel_rfl) (by kernel_rfl) rfl hS (iy rfl rfl (by rw [Int.zero_mul]; rfl : IntKind.wrap .i64 (0 * fp l ((0 : Nat) : Int) l.length) = 0)) ?_
 refine ai 13 rfl rfl (by kernel_rfl) (by kernel_rfl) (by kernel_rfl) rfl hS (bz rfl rfl (r := 0) rfl) ?_
 refine ai 14 rfl rfl (by kernel_rfl) (by kernel_rfl) (by kernel_rfl) rfl hS (cu rfl rfl) ?_
 refine ai 15 rfl rfl (by kernel_rfl) (by kernel_rfl) (by kernel_rfl) rfl hS (ag rfl) ?_
 refine cm (by kernel_rfl) ?_; clear hS
 refine a8 (ao (ak (.inl rfl) (.cons (aj rfl) .nil) ?_))
 exact ⟨_, ⟨rfl, rfl⟩, inferInstance⟩
 skip
 refine dP rfl rfl (df (ly (b := bu) (f := fun _ => none) (k := ((0 : Nat) : Int)) (v := .int .i64 0) jX dF f9 rfl rfl rfl)) rfl ?_; clear hS
 rintro _ _ ⟨rfl, rfl⟩
 refine ⟨(aE (aE (aE aH))), fun hS => ?_⟩
 refine b0 1 (by kernel_rfl) rfl rfl (aF call160 rfl (wz W0 _ m.z c m.pb)) rfl ?_; clear hS
 rintro _ B_ ⟨rfl, hB_⟩
 obtain rfl := hB_.symm
 refine ⟨(aE (aE (aE aH))), fun hS => ?_⟩
 refine b0 4 (by kernel_rfl) rfl rfl (aF sX rfl (pq tb a cc l h1 h8)) rfl ?_; clear hS
 rintro _ B_ ⟨rfl, hB_⟩
 obtain rfl := hB_.symm
 refine ⟨(aE (aE (aE aH))), fun hS => ?_⟩
 refine ai 5 rfl rfl (by kernel_rfl) (by kernel_rfl) (by kernel_rfl) rfl hS (m4 rfl rfl (by omega) (by rw [show Int.tdiv ((0 : Nat) : Int) (dU l l.length) = 0 by simp]; rfl : IntKind.wrap .i64 (Int.tdiv ((0 : Nat) : Int) (dU l l.length)) = 0)) ?_
 refine b0 8 (by kernel_rfl) rfl rfl (fJ sY rfl (px W0 _ tb a cc l ((0 : Nat) : Int) h1 h8 hok)) rfl ?_; clear hS
 rintro _ B_ ⟨rfl, hB_⟩
 obtain rfl := hB_.symm
 refine ⟨(aE (aE (aE aH))), fun hS => ?_⟩
 refine ai 9 rfl rfl (by kernel_rfl) (by kernel_rfl) (by kernel_rfl) rfl hS (iy rfl rfl (by rw [Int.zero_mul]; rfl : IntKind.wrap .i64 (0 * fp l ((0 : Nat) : Int) l.length) = 0)) ?_
 refine ai 13 rfl rfl (by kernel_rfl) (by kernel_rfl) (by kernel_rfl) rfl hS (bz rfl rfl (r := 0) rfl) ?_
 refine ai 14 rfl rfl (by kernel_rfl) (by kernel_rfl) (by kernel_rfl) rfl hS (cu rfl rfl) ?_
 refine ai 15 rfl rfl (by kernel_rfl) (by kernel_rfl) (by kernel_rfl) rfl hS (ag rfl) ?_
 refine cm (by kernel_rfl) ?_; clear hS
 refine a8 (ao (ak (.inl rfl) (.cons (aj rfl) .nil) ?_))
 exact ⟨_, ⟨rfl, rfl⟩, inferInstance⟩
theorem E8 (h : CfK W0 c) (hr : rt c = true) : ax Tryz.prog W0 65 [pV lk] (pt lk (bE m.hv c) :: bn m c fr X) (fun v B => v = .bool true ∧ B = pt lk (bE m.hv c) :: bn m c fr X) := by
 obtain ⟨s1, s2, s3⟩ := vG hr
 obtain ⟨p1, p2⟩ := wJ s1 s3
 refine aB func65 ntmps65 rfl rfl ?_
 refine aa (ae (a7 rfl (ag rfl) (ac (a8 (aa (ae (a7 rfl (ab rfl) (a7 rfl (aI rfl) ?_))))))))
 refine a7 rfl (ar rfl eJ rfl ce rfl (by first | exact Nat.zero_add _ | rfl)) ?_
 refine a7 rfl (ar rfl bW rfl i6 rfl (by first | exact Nat.zero_add _ | rfl)) ?_
 refine a7 rfl (ap jO rfl (az rfl)) ?_
 refine ah rfl (aS call70 rfl (vB W0 _ c.sl c.sa c.sc h.ok.s s1 s2 s3)) ?_
 rintro _ B_ ⟨tb, sa, sc, rfl, hB_⟩
 obtain rfl := hB_.symm
 refine a7 rfl (ab rfl) (a7 rfl (aW rfl rfl) (a7 rfl (aW rfl rfl) (ah rfl (ia zeroValue32 rfl) ?_)))
 rintro _ _ ⟨b3, rfl, rfl⟩
 refine bc (ck pS rfl rfl rfl (Nat.le_of_ble_eq_true rfl) SetL.eq) ?_
 rintro _ _ rfl
 refine a7 rfl (ag rfl) (ac (a8 (aa (aa (ae (a7 rfl (ab rfl) (a7 rfl (bT rfl rfl) (ac (a8 ?_)))))))))
 refine au rfl ?_ ?_
 intro c2
 exact absurd c2 (by decide)
 intro c2
 refine aA (a8 (aa (ae (a7 rfl (ab rfl) (a7 rfl (aI rfl) ?_)))))
 refine a7 rfl (ar rfl eJ rfl fw rfl (by first | exact Nat.zero_add _ | rfl)) ?_
 refine a7 rfl (ap gk rfl (az rfl)) ?_
 refine ah rfl (aF call156 rfl (Dh m.hv c m.ho m.a m.cap m.tb m.ib 0)) ?_
 rintro _ B_ ⟨rfl, hB_⟩
 obtain rfl := hB_.symm
 refine ah rfl (ia f9 rfl) ?_
 rintro _ _ ⟨b5, rfl, rfl⟩
 refine bc (ck aC rfl rfl rfl (Nat.le_of_ble_eq_true rfl) SetL.eq) ?_
 rintro _ _ rfl
 refine ac (a8 (aa (ae (ah rfl (mF) ?_))))
 rintro _ _ ⟨bu, rfl, rfl⟩
 refine ah rfl (ia EN rfl) ?_
 rintro _ _ ⟨b6, rfl, rfl⟩
 refine bc (ck sizeOf291 rfl rfl rfl (Nat.le_of_ble_eq_true rfl) SetL.eq) ?_
 rintro _ _ rfl
 refine ac (a8 (aa (aa ?_)))
 refine di [(b5, 0, _), (b3, 0, _)] 7 d4 rfl (aE (aE aH)) (fun hS => ?_)
 refine ai 0 rfl rfl (by kernel_rfl) (by kernel_rfl) (by kernel_rfl) rfl hS (ap aM rfl (by first | exact aU (k := 0) rfl rfl | exact aU (k := 1) rfl rfl)) ?_
 refine ai 1 rfl rfl (by kernel_rfl) (by kernel_rfl) (by kernel_rfl) rfl hS (ap aM rfl (by first | exact aU (k := 0) rfl rfl | exact aU (k := 1) rfl rfl)) ?_
 refine ai 2 rfl rfl (by kernel_rfl) (by kernel_rfl) (by kernel_rfl) rfl hS (ap pT rfl (by first | exact aU (k := 0) rfl rfl | exact aU (k := 1) rfl rfl)) ?_
 refine b0 3 (by kernel_rfl) rfl rfl (aF sX rfl (pq tb sa sc c.sl s1 s2)) rfl ?_; clear hS
 rintro _ B_ ⟨rfl, hB_⟩
 obtain rfl := hB_.symm
 refine ⟨(aE (aE aH)), fun hS => ?_⟩
 refine ai 4 rfl rfl (by kernel_rfl) (by kernel_rfl) (by kernel_rfl) rfl hS (y3 rfl rfl (by omega) (by simp : Int.tmod ((0 : Nat) : Int) (dU c.sl c.sl.length) = 0)) ?_
 refine ai 5 rfl rfl (by kernel_rfl) (by kernel_rfl) (by kernel_rfl) rfl hS (d7 rfl rfl (r := 0) rfl) ?_
 refine ai 6 rfl rfl (by kernel_rfl) (by kernel_rfl) (by kernel_rfl) rfl hS (ag rfl) ?_
 refine cm (by kernel_rfl) ?_; clear hS
 refine a8 (aP ?_)
 refine bX (fun _ : Unit => True) (fun _ => [(0, pV lk), (3, pV b3), (5, pV b5), (6, pV b6), (7, .int .i64 0)]) (fun _ => pt lk (bE m.hv c) :: bn m c fr (s4 b5 b3 b6 bu tb sa sc c.sl X)) (fun _ => 0) () ?_ ?_ ?_ ?_
 trivial
 · repeat (first | exact aQ | refine aO rfl ?_)
 exact inferInstance
 intro _ _
 refine aa (aa (ae (a7 rfl (ab rfl) (a7 rfl (ap aM rfl (az rfl)) ?_))))
 refine a7 rfl (aV rfl rfl) (ac (a8 ?_))
 refine au rfl ?_ ?_
 intro c7
 exact absurd c7 (by decide)
 intro c7
 refine bF (aR (aR (bH (a8 (aa (ae (a7 rfl (ab rfl) (a7 rfl (dz rfl rfl) ?_))))))))
 refine ah rfl (aS pW rfl (n1 159 [pV b5, pV b3, pV b6] true call159 (E7 s1 s2 s3))) ?_
 rintro _ B_ ⟨rfl, hB_⟩
 obtain rfl := hB_.symm
 refine a7 rfl (ag rfl) (ac (a8 (ao (ak (.inl rfl) (.cons (aj rfl) .nil) ?_))))
 exact ⟨_, ⟨rfl, rfl⟩, inferInstance⟩
def n3 (n : Int) : FuncId := if n = 1 then 60 else if n = 2 then 61 else if n = 3 then 62 else if n = 4 then 63 else if n = 5 then 64 else if n = 6 then 65 else if n = 7 then 66 else if n = 8 then 67 else 68
theorem E9 (n : Int) (R : List HP) : ax Tryz.prog W0 27 [pV lk, .int .i64 n] R (fun v B => v = .func (.func (n3 n)) #[pV lk] #[] ∧ B = R) := by
 refine aB func27 ntmps27 rfl rfl ?_
 refine aa (ae (a7 rfl (ag rfl) (ac (a8 (aa (aa (ae (a7 rfl (ab rfl) (ac (a8 (aP (aa (ae (a7 rfl (cu rfl rfl) (a7 rfl (ag rfl) (ac (a8 ?_)))))))))))))))))
 refine au rfl ?_ ?_
 intro c2
 refine aa (ae (a7 rfl (ab rfl) (a7 rfl (dz rfl rfl) ?_)))
 refine a7 rfl (ag rfl) (ac (a8 (ao (be (aJ (ak (.inl rfl) (.cons (aj rfl) .nil) ?_))))))
 rw [show n = 1 by simpa using c2]; exact ⟨_, ⟨rfl, rfl⟩, inferInstance⟩
 intro c2
 refine aa (ae (a7 rfl (cu rfl rfl) (a7 rfl (ag rfl) (ac (a8 ?_)))))
 refine au rfl ?_ ?_
 intro c4
 refine aa (ae (a7 rfl (ab rfl) (a7 rfl (dz rfl rfl) ?_)))
 refine a7 rfl (ag rfl) (ac (a8 (ao (be (aJ (ak (.inl rfl) (.cons (aj rfl) .nil) ?_))))))
 rw [show n = 2 by simpa using c4]; exact ⟨_, ⟨rfl, rfl⟩, inferInstance⟩
 intro c4
 refine aa (ae (a7 rfl (cu rfl rfl) (a7 rfl (ag rfl) (ac (a8 ?_)))))
 refine au rfl ?_ ?_
 intro c6
 refine aa (ae (a7 rfl (ab rfl) (a7 rfl (dz rfl rfl) ?_)))
 refine a7 rfl (ag rfl) (ac (a8 (ao (be (aJ (ak (.inl rfl) (.cons (aj rfl) .nil) ?_))))))
 rw [show n = 3 by simpa using c6]; exact ⟨_, ⟨rfl, rfl⟩, inferInstance⟩
 intro c6
 refine aa (ae (a7 rfl (cu rfl rfl) (a7 rfl (ag rfl) (ac (a8 ?_)))))
 refine au rfl ?_ ?_
 intro c8
 refine aa (ae (a7 rfl (ab rfl) (a7 rfl (dz rfl rfl) ?_)))
 refine a7 rfl (ag rfl) (ac (a8 (ao (be (aJ (ak (.inl rfl) (.cons (aj rfl) .nil) ?_))))))
 rw [show n = 4 by simpa using c8]; exact ⟨_, ⟨rfl, rfl⟩, inferInstance⟩
 intro c8
 refine aa (ae (a7 rfl (cu rfl rfl) (a7 rfl (ag rfl) (ac (a8 ?_)))))
 refine au rfl ?_ ?_
 intro c10
 refine aa (ae (a7 rfl (ab rfl) (a7 rfl (dz rfl rfl) ?_)))
 refine a7 rfl (ag rfl) (ac (a8 (ao (be (aJ (ak (.inl rfl) (.cons (aj rfl) .nil) ?_))))))
 rw [show n = 5 by simpa using c10]; exact ⟨_, ⟨rfl, rfl⟩, inferInstance⟩
 intro c10
 refine aa (ae (a7 rfl (cu rfl rfl) (a7 rfl (ag rfl) (ac (a8 ?_)))))
 refine au rfl ?_ ?_
 intro c12
 refine aa (ae (a7 rfl (ab rfl) (a7 rfl (dz rfl rfl) ?_)))
 refine a7 rfl (ag rfl) (ac (a8 (ao (be (aJ (ak (.inl rfl) (.cons (aj rfl) .nil) ?_))))))
 rw [show n = 6 by simpa using c12]; exact ⟨_, ⟨rfl, rfl⟩, inferInstance⟩
 intro c12
 refine aa (ae (a7 rfl (cu rfl rfl) (a7 rfl (ag rfl) (ac (a8 ?_)))))
 refine au rfl ?_ ?_
 intro c14
 refine aa (ae (a7 rfl (ab rfl) (a7 rfl (dz rfl rfl) ?_)))
 refine a7 rfl (ag rfl) (ac (a8 (ao (be (aJ (ak (.inl rfl) (.cons (aj rfl) .nil) ?_))))))
 rw [show n = 7 by simpa using c14]; exact ⟨_, ⟨rfl, rfl⟩, inferInstance⟩
 intro c14
 refine aa (ae (a7 rfl (cu rfl rfl) (a7 rfl (ag rfl) (ac (a8 ?_)))))
 refine au rfl ?_ ?_
 intro c16
 refine aa (ae (a7 rfl (ab rfl) (a7 rfl (dz rfl rfl) ?_)))
 refine a7 rfl (ag rfl) (ac (a8 (ao (be (aJ (ak (.inl rfl) (.cons (aj rfl) .nil) ?_))))))
 rw [show n = 8 by simpa using c16]; exact ⟨_, ⟨rfl, rfl⟩, inferInstance⟩
 intro c16
 refine aA (bw (a8 (aa (ae (a7 rfl (ab rfl) (a7 rfl (dz rfl rfl) ?_))))))
 refine a7 rfl (ag rfl) (ac (a8 (ao (ak (.inl rfl) (.cons (aj rfl) .nil) ?_))))
 rw [n3, if_neg (by simpa using c2), if_neg (by simpa using c4), if_neg (by simpa using c6), if_neg (by simpa using c8), if_neg (by simpa using c10), if_neg (by simpa using c12), if_neg (by simpa using c14), if_neg (by simpa using c16)]
 exact ⟨_, ⟨rfl, rfl⟩, inferInstance⟩
theorem j6 (n : Nat) (h1 : 1 ≤ n) (h9 : n ≤ 9) (b : Bool) (hcall : ∀ args w, (callFunc (n3 n) args).run Tryz.prog w = .ok (.enter (n3 n) args) w) (hr : ∀ lk, ax Tryz.prog W0 (n3 n) [pV lk] (pt lk (bE m.hv c) :: bn m c fr X) (fun v B => v = .bool b ∧ B = pt lk (bE m.hv c) :: bn m c fr X)) :
    ax Tryz.prog W0 6 [pV m.hv, .int .i64 n] (bn m c fr X) (fun v B => v = .bool b ∧ B = bn m c fr X) := by
 refine aB func6 ntmps6 rfl rfl ?_
 refine aa (ae (a7 rfl (ag rfl) (ac (a8 (aa (aa (ae (a7 rfl (ab rfl) (ah rfl (aF fH rfl (fC m.hv c m.ho m.a m.cap m.tb m.ib 0)) ?_)))))))))
 rintro _ B_ ⟨rfl, hB_⟩
 obtain rfl := hB_.symm
 refine a7 rfl (dx xD rfl rfl) (a7 rfl (ab rfl) ?_)
 refine bJ rfl rfl rfl ?_ ?_
 intro g1_4
 first | exact absurd g1_4 (by decide) | (cases g1_4)
 intro g1_4
 refine a7 rfl (ab rfl) (av rfl rfl (a7 rfl (aV rfl rfl) (a7 rfl (aX rfl rfl) (a7 rfl (ab rfl) ?_))))
 refine bJ rfl rfl rfl ?_ ?_
 intro g1_8
 omega
 intro g1_8
 refine a7 rfl (ab rfl) (av rfl rfl (a7 rfl (cA rfl rfl) (a7 rfl (aX rfl rfl) (ac (a8 ?_)))))
 refine au rfl ?_ ?_
 intro c1
 first | omega | (simp at c1; omega)
 intro c1
 refine aA (a8 (aa (ae (a7 rfl (ab rfl) (a7 rfl (ab rfl) (ah rfl (aF fH rfl (fC m.hv c m.ho m.a m.cap m.tb m.ib 0)) ?_))))))
 rintro _ B_ ⟨rfl, hB_⟩
 obtain rfl := hB_.symm
 refine ah rfl (aF call25 rfl (Dm m.ho c m.ps m.pb m.db m.qb m.gb)) ?_
 rintro _ B_ ⟨rfl, hB_⟩
 obtain rfl := hB_.symm
 refine a7 rfl (cq eJ zeroValue80 (aK fw (aK ce cp)) (bB rfl fw rfl rfl (Nat.le_of_ble_eq_true rfl) SetL.eq (jf rfl ce rfl rfl (Nat.le_of_ble_eq_true rfl) SetRL.eq co))) ?_
 refine ah rfl (bL rfl) ?_
 rintro _ _ ⟨lk, rfl, rfl⟩
 refine a7 rfl (ag rfl) (ac (a8 (aa (ka (b := lk) (o' := bE m.hv c) rfl ?_))))
 refine ae (a7 rfl (ab rfl) (a7 rfl (ab rfl) (ah rfl (aS call27 rfl (E9 n _)) ?_)))
 rintro _ B_ ⟨rfl, hB_⟩
 obtain rfl := hB_.symm
 refine a7 rfl (ag rfl) (ac (a8 (aa (ae (a7 rfl (ab rfl) (ah rfl (fc (B := pt lk (bE m.hv c) :: bn m c fr X) inferInstance (iB (us := [pV lk]) (vs := []) (cs := []) rfl hcall rfl (hr lk))) ?_))))))
 rintro _ B_ ⟨rfl, hB_⟩
 obtain rfl := hB_.symm
 refine a7 rfl (ag rfl) (ac (a8 (ao (ak (.inl rfl) (.cons (aj rfl) .nil) ?_))))
 exact ⟨_, ⟨rfl, rfl⟩, inferInstance⟩
def cZ (q : Nat → Bool) : Nat → List Nat
 | 0 => []
 | k + 1 => if q (k + 1) = true then cZ q k else cZ q k ++ [k + 1]
theorem wK (q : Nat → Bool) : ∀ k, (cZ q k).length ≤ k
 | 0 => Nat.le_refl _
 | k + 1 => by
  have := wK q k
  rw [cZ]; split <;> simp <;> omega
theorem py (p : Option Addr) (M : List HP) (q : Nat → Bool) (hq : ∀ (n : Nat) (X : List HP), 1 ≤ n → n ≤ 9 → ax Tryz.prog W0 6 [.pointer p, .int .i64 n] (M ++ X) (fun v B => v = .bool (q n) ∧ B = M ++ X)) :
    ax Tryz.prog W0 7 [.pointer p] (M ++ Y) (fun v B => ∃ a cap, v = .slice a (cZ q 9).length cap ∧ B = osl 3 1 (.slice a (cZ q 9).length cap) ((cZ q 9).map nI) :: (M ++ Y)) := by
 obtain ⟨Z0, hZ0⟩ : ∃ Z, M ++ Y = Z := ⟨_, rfl⟩
 rw [hZ0]
 refine aB func7 ntmps7 rfl rfl ?_
 refine aa (ae (a7 rfl (ag rfl) (ac (a8 (aa (ae (a7 rfl (ag rfl) (ac (a8 (aa (aa (ae (a7 rfl (ag rfl) (ac (a8 (aP ?_))))))))))))))))
 refine bX (fun X : Nat × Option Addr × Nat => X.1 ≤ 9) (fun X => [(0, .pointer p), (3, .slice X.2.1 (cZ q X.1).length X.2.2), (4, .int .i64 ((X.1 + 1 : Nat) : Int))]) (fun X => osl 3 1 (.slice X.2.1 (cZ q X.1).length X.2.2) ((cZ q X.1).map nI) :: Z0) (fun X => 9 - X.1) (0, none, 0) ?_ ?_ ?_ ?_
 exact Nat.zero_le _
 · repeat (first | exact aQ | refine aO rfl ?_)
 exact dZ (E := 3) (sz := 1) (k := ent_refl)
 intro ⟨k, a, cap⟩ hk
 dsimp only at hk ⊢
 refine aa (aa (ae (a7 rfl (ab rfl) (a7 rfl (iU rfl rfl) (ac (a8 ?_))))))
 refine au rfl ?_ ?_
 intro c3
 refine aA (a8 ?_)
 refine gQ (fun Z : Option Addr × Nat => k < 9) (fun Z => [(0, .pointer p), (3, .slice Z.1 (cZ q (k + 1)).length Z.2), (4, .int .i64 ((k + 1 : Nat) : Int))]) (fun Z => osl 3 1 (.slice Z.1 (cZ q (k + 1)).length Z.2) ((cZ q (k + 1)).map nI) :: Z0) ?_ ?_
 skip
 refine aP (aa ?_)
 have hk1 : k < 9 := by omega
 have hl := wK q k
 rw [← hZ0]
 refine m0 List.perm_middle.symm ?_
 refine ae (a7 rfl (ab rfl) (a7 rfl (ab rfl) ?_))
 refine ah rfl (aS xV rfl (hq (k + 1) (osl 3 1 (.slice a (cZ q k).length cap) ((cZ q k).map nI) :: Y) (by omega) (by omega))) ?_
 rintro _ B_ ⟨rfl, hB_⟩
 obtain rfl := hB_.symm
 refine m0 List.perm_middle ?_
 rw [hZ0]
 refine a7 rfl (bM rfl) (ac (a8 ?_))
 refine au rfl ?_ ?_
 intro c5
 refine ae (a7 rfl (ab rfl) (a7 rfl (ab rfl) ?_))
 refine ah rfl (jg dd aC f9 rfl rfl rfl rfl rfl (by decide) (by decide)) ?_
 rintro _ _ ⟨b1, rfl, rfl⟩
 refine ah rfl (eg (sz := 1) (by_ := 8) (info := Tryz.t3) dd (by kernel_rfl) rfl rfl rfl rfl (by decide) rfl rfl dK rfl rfl (by simp only [maxLen]; omega) (by omega)) ?_
 rintro _ _ ⟨a3, c3, rfl, rfl⟩
 refine a7 rfl (ag rfl) (ac (bw (a8 ?_)))
 refine dG (a3, c3) ?_ ?_ ?_
 exact hk1
 · rw [show cZ q (k + 1) = cZ q k ++ [k + 1] by rw [cZ, if_neg (by simpa using c5)], show (cZ q k ++ [k + 1]).length = (cZ q k).length + 1 by simp]
   repeat (first | exact aQ | refine aO rfl ?_)
 rw [show cZ q (k + 1) = cZ q k ++ [k + 1] by rw [cZ, if_neg (by simpa using c5)], show (cZ q k ++ [k + 1]).length = (cZ q k).length + 1 by simp, show (cZ q k ++ [k + 1]).map nI = (cZ q k).map nI ++ [nI (k + 1)] by simp]
 exact inferInstance
 intro c5
 refine aA (bw (a8 ?_))
 refine dG (a, cap) ?_ ?_ ?_
 exact hk1
 · rw [show cZ q (k + 1) = cZ q k by rw [cZ, if_pos (by simpa using c5)]]
   repeat (first | exact aQ | refine aO rfl ?_)
 rw [show cZ q (k + 1) = cZ q k by rw [cZ, if_pos (by simpa using c5)]]
 exact inferInstance
 intro ⟨a4, c4⟩ hk1
 refine ae (a7 rfl (ab rfl) ?_)
 refine a7 rfl (bz rfl rfl (by rw [aT (by omega)]; omega : IntKind.wrap .i64 (((k + 1 : Nat) : Int) + 1) = ((k + 1 + 1 : Nat) : Int))) ?_
 refine a7 rfl (ag rfl) (ac (a8 ?_))
 refine cg (k + 1, a4, c4) ?_ ?_ ?_ ?_
 omega
 show 9 - (k + 1) < 9 - k; omega
 · repeat (first | exact aQ | refine aO rfl ?_)
 exact inferInstance
 intro c3
 refine bF (aR (aR (bH (a8 (aa (ae (a7 rfl (ab rfl) (a7 rfl (ag rfl) (ac (a8 (ao (ak (.inl rfl) (.cons (aj rfl) .nil) ?_))))))))))))
 obtain rfl : k = 9 := by omega
 exact ⟨_, ⟨a, cap, rfl, rfl⟩, inferInstance⟩
end
def qN (c : Cfg) (fr : List aZ) (n : Nat) : Bool := if n = 1 then i3 (kA c) fr.length else if n = 3 then i3 (lP c fr.length) fr.length else if n = 4 then i3 (kB c fr) fr.length else true
section
variable {W0 : World} {m : Mz} {c : Cfg} {fr : List aZ}
theorem Ea (h : CfK W0 c) (hfl : fr.length ≤ 1000) (hr : rt c = true) (hO : OwnOk c) (hn : c.nl.length = 0) (hg : pr c) (hF : dI fr) (hl : fr.length = (dm c).length) (hb : ∀ f, f < fr.length → 0 ≤ (dw c f).2 ∧ (dw c f).2 < 100) (hx : DkOk m.x) (x1 : ∀ i : Nat, i < 32 → gz m.x.rs 32 i = none) (x2 : ∀ i : Nat, i < 32 → g0 m.x.ss i = dy) (x3 : ∀ i : Nat, i < 32 → lw c i = none) (hp : c.pl = []) :
    ∀ (n : Nat) (X : List HP), 1 ≤ n → n ≤ 9 → ax Tryz.prog W0 6 [pV m.hv, .int .i64 n] (bn m c fr [] ++ X) (fun v B => v = .bool (qN c fr n) ∧ B = bn m c fr [] ++ X) := by
 intro n X h1 h9
 have : n = 1 ∨ n = 2 ∨ n = 3 ∨ n = 4 ∨ n = 5 ∨ n = 6 ∨ n = 7 ∨ n = 8 ∨ n = 9 := by omega
 rcases this with rfl | rfl | rfl | rfl | rfl | rfl | rfl | rfl | rfl
 exact j6 1 h1 h9 _ call60 fun lk => Dx h hfl hl
 exact j6 2 h1 h9 _ call61 fun lk => DU hO hn hg
 exact j6 3 h1 h9 _ call62 fun lk => E6 h hfl hO hl hb
 exact j6 4 h1 h9 _ call63 fun lk => Dz h hfl hF hl
 exact j6 5 h1 h9 _ call64 fun lk => DF
 exact j6 6 h1 h9 _ call65 fun lk => E8 h hr
 exact j6 7 h1 h9 _ call66 fun lk => DI
 exact j6 8 h1 h9 _ call67 fun lk => DJ h.ok hx x1 x2 x3
 exact j6 9 h1 h9 _ call68 fun lk => DL hp
end
@[reducible] def d3 (b1 b2 : Nat) : Cfg := ⟨0, some ⟨b1, 0, none⟩, 1, [(0, 2, 1)], none, 0, [], none, 0, [], none, 0, [], some ⟨b2, 0, none⟩, 1, [(0, 1)], -1, 0⟩
theorem s5 (b1 b2 : Nat) : rt (d3 b1 b2) = true := by kernel_rfl
theorem wL (b1 b2 : Nat) : dm (d3 b1 b2) = [(0, true), (0, true), (0, false)] := by kernel_rfl
theorem pz (b1 b2 : Nat) : f6 (d3 b1 b2) = [(0, 3), (1, 3), (0, 0), (0, 0), (0, 0), (0, 0), (0, 0), (0, 0), (0, 0), (0, 0), (0, 0), (0, 0)] := by kernel_rfl
theorem pA (b1 b2 : Nat) : i4 (d3 b1 b2) = [0, 1] := by kernel_rfl
theorem Eb (b1 b2 : Nat) : gF (d3 b1 b2) = [bQ, bQ, bQ] := by kernel_rfl
theorem Ec (b1 b2 : Nat) : OwnOk (d3 b1 b2) := by
 have hR := gC (s5 b1 b2)
 refine ⟨?_, ?_, ?_, ?_, ?_⟩
 exact mM (mq (by decide) ⟨dI.new _, rF hR _, vw, by rw [lH]; simp [gF]⟩).pg _
 rw [pA]; decide
 rw [pA]; intro k hk
 have : k = 0 ∨ k = 1 := by simp at hk; omega
 rcases this with rfl | rfl <;> decide
 rw [pA, wL]; intro k hk
 have : k = 0 ∨ k = 1 := by simp at hk; omega
 rcases this with rfl | rfl
 exact ⟨0, by rw [fD, pz]; decide, by decide, rfl⟩
 exact ⟨1, by rw [fD, pz]; decide, by decide, rfl⟩
 rw [pA]; intro k hk
 have : k = 0 ∨ k = 1 := by simp at hk; omega
 rcases this with rfl | rfl
 rfl
 show km (fun _ => none) (fD (d3 b1 b2) 0) _ (fD (d3 b1 b2) 1) = none
 rw [fD, fD, pz]; decide
theorem Ed (b1 b2 : Nat) : pr (d3 b1 b2) := by
 intro k hk
 rw [pz]
 have : k = 0 ∨ k = 1 ∨ k = 2 ∨ k = 3 := by omega
 rcases this with rfl | rfl | rfl | rfl <;> exact ⟨by decide, by decide⟩
theorem Ee (b1 b2 f : Nat) (hf : f < 3) : 0 ≤ (dw (d3 b1 b2) f).2 ∧ (dw (d3 b1 b2) f).2 < 100 := by
 have : f = 0 ∨ f = 1 ∨ f = 2 := by omega
 rcases this with rfl | rfl | rfl
 rw [show dw (d3 b1 b2) ((0 : Nat) : Int) = (1, 0) by kernel_rfl]; decide
 rw [show dw (d3 b1 b2) ((1 : Nat) : Int) = (1, 0) by kernel_rfl]; decide
 rw [show dw (d3 b1 b2) ((2 : Nat) : Int) = (1, 0) by kernel_rfl]; decide
theorem Ef (b1 b2 i : Nat) : lw (d3 b1 b2) i = none := rfl
abbrev j7 : List aZ := fQ [bQ, bQ, bQ] 2 0 1 7
theorem wM : dI j7 ∧ j7.length = 3 := ⟨fun x hx => by
 have : x ∈ j7 := hx
 rw [show j7 = [bQ, bQ, 7 :: List.replicate 63 0] by kernel_rfl] at this
 simp only [List.mem_cons, List.not_mem_nil, or_false] at this
 rcases this with rfl | rfl | rfl
 exact qx
 exact qx
 exact ⟨by simp, fun b hb => by
  rcases List.mem_cons.1 hb with rfl | hb
  decide
  have := List.eq_of_mem_replicate hb; omega⟩, by kernel_rfl⟩
theorem Eg : iD [bQ, bQ, bQ] 2 0 1 = true := by kernel_rfl
theorem Eh (b1 b2 : Nat) : cZ (qN (d3 b1 b2) [bQ, bQ, bQ]) 9 = [] := by kernel_rfl
theorem Ei (b1 b2 : Nat) : cZ (qN (d3 b1 b2) j7) 9 = [4] := by kernel_rfl
theorem Ej {W0 W : World} {b1 b2 : Nat} {R : List HP} (hO : Own W0 W (pt b2 (am ([(0, 1)].flatMap d5) 87) :: pt b1 (am ([(0, 2, 1)].flatMap en) 85) :: R)) : CfK W (d3 b1 b2) :=
  ⟨⟨uR hO (mt (b := b1) (fun _ => rfl) rfl), fun _ => mr, fun _ => mr, fun _ => mr, uR hO (mt (b := b2) (fun _ => rfl) rfl), Nat.le_refl _⟩, Nat.le_refl _⟩
theorem Ek {bs : Nat} {R : List HP} : Ent (pt bs (am [cX, .bool true] 512) :: R) (e9 bs [] :: R) :=
  Ent.trans (B := pt bs (am [.slice none 0 0, .bool true] 512) :: osl 514 7 (.slice none 0 0) [] :: R) (Ent.cons (dZ (E := 514) (sz := 7) (k := ent_refl))) (eX (R := R) (C := [_, _]) ⟨none, 0, rfl⟩)
theorem El (m : Mz) (c : Cfg) (fr : List aZ) (R : List HP) : Ent (vF m c fr R) (bn m c fr R) := by
 refine Ent.trans (B := pt m.z.bs (am [cX, .bool true] 512) :: bY m.z.bt ([], [.int .i64 ((4 : Nat) : Int), .int .i64 0, .bool true]) :: pt m.hv (eU c m.ho m.a m.cap m.tb m.ib 0) :: pt m.ho (am (dN c m.ps m.pb m.db m.qb m.gb) 68) :: bP m.ps fr :: cn m.pb (m.ps, dm c) :: eu m.db m.x :: ik m.qb (fi c.pl) :: pt m.gb (gZ c.cats c.gate c.quota) :: osl 50 1 (.slice m.a 1 m.cap) [pV m.z.g] :: pt m.z.g (gO m.z c m.pb) :: pt m.z.x.m (gG m.z.pv m.z.bt m.z.bs) :: pt m.z.pv (dT m.ps m.z.pm 0) :: pt m.z.bx iL :: pt m.z.pm (cK (f6 c)) :: R) inferInstance ?_
 refine Ent.trans Ek ?_
 show Ent (e9 m.z.bs [] :: bY m.z.bt ([], p7 4 0) :: pt m.hv (eU c m.ho m.a m.cap m.tb m.ib 0) :: pt m.ho (am (dN c m.ps m.pb m.db m.qb m.gb) 68) :: bP m.ps fr :: cn m.pb (m.ps, dm c) :: eu m.db m.x :: ik m.qb (fi c.pl) :: pt m.gb (gZ c.cats c.gate c.quota) :: osl 50 1 (.slice m.a 1 m.cap) [pV m.z.g] :: pt m.z.g (gO m.z c m.pb) :: pt m.z.x.m (gG m.z.pv m.z.bt m.z.bs) :: pt m.z.pv (dT m.ps m.z.pm 0) :: pt m.z.bx iL :: pt m.z.pm (cK (f6 c)) :: R) (bn m c fr R)
 exact inferInstance
theorem Em : eF [] = some ⟨[], [], List.replicate 32 dy⟩ := by kernel_rfl
theorem En : DkOk ⟨[], [], List.replicate 32 dy⟩ := ⟨fun x hx => by simp at hx, by decide, by decide, fun i w h => by simp [gW] at h, by simp, fun b hb => by rw [List.eq_of_mem_replicate hb]; exact ⟨rfl, fun x hx => by simp [dy] at hx; omega⟩⟩
theorem Eo {B R : List HP} {x y : HP} : Ent (B ++ x :: y :: R) R := by
 rw [show B ++ x :: y :: R = (B ++ [x, y]) ++ R by simp]; exact E4
theorem wN {A : List HP} : Ent A [] := ⟨fun l hl => ⟨[], l, rfl, by simp⟩⟩
theorem wO : ax Tryz.prog W0 8 [] R (fun v B => v = .int .i64 9 ∧ B = R) := by
 refine aB func8 ntmps8 rfl rfl ?_
 refine aa (ae (a7 rfl (ag rfl) (ac (a8 (aa (ae (a7 rfl (ag rfl) (ac (a8 (ao (ak (.inl rfl) (.cons (aj rfl) .nil) ?_)))))))))))
 exact ⟨_, ⟨rfl, rfl⟩, inferInstance⟩
theorem wP (W : World) (b1 b2 : Nat) (m : Mz) (fr : List aZ) (hok : CfK W (d3 b1 b2)) (hF : dI fr) (hl : fr.length = 3) (hx : m.x = ⟨[], [], List.replicate 32 dy⟩) :
    ∀ (n : Nat) (X : List HP), 1 ≤ n → n ≤ 9 → ax Tryz.prog W 6 [pV m.hv, .int .i64 n] (bn m (d3 b1 b2) fr [] ++ X) (fun v B => v = .bool (qN (d3 b1 b2) fr n) ∧ B = bn m (d3 b1 b2) fr [] ++ X) := by
 refine Ea hok (by omega) (s5 b1 b2) (Ec b1 b2) rfl (Ed b1 b2) hF (by rw [hl, wL]; rfl) (fun f hf => Ee b1 b2 f (by omega)) ?_ ?_ ?_ (fun i _ => ?_) rfl
 rw [hx]; exact En
 rw [hx]; intro i hi; rw [gz, if_neg (by omega)]; rfl
 rw [hx]; intro i hi
 show (List.replicate 32 dy).getD i dy = dy
 rw [List.getD_eq_getElem?_getD, List.getElem?_replicate, if_pos hi]; rfl
 exact Ef b1 b2 i
theorem Ep : ax Tryz.prog W0 9 [] R (fun v B => v = .bool true ∧ B = R) := by
 refine aB func9 ntmps9 rfl rfl ?_
 refine aa (ae (a7 rfl (ag rfl) (ac (a8 (aa (ae (a7 rfl (cq gj pI (aK aC (aK aC (aK aC cp))) (bB rfl aC rfl rfl (Nat.le_of_ble_eq_true rfl) SetL.eq (bB rfl aC rfl rfl (Nat.le_of_ble_eq_true rfl) SetL.eq co))) ?_)))))))
 refine ah rfl (fM eA gi pI rfl (eB rfl rfl fK) rfl (by decide) (by decide) (by decide)) ?_
 rintro _ _ ⟨b1, rfl, rfl⟩
 refine a7 rfl (cq iP pJ (aK aC (aK aC cp)) (bB rfl aC rfl rfl (Nat.le_of_ble_eq_true rfl) SetL.eq co)) ?_
 refine ah rfl (fM fF iw pJ rfl (eB rfl rfl fK) rfl (by decide) (by decide) (by decide)) ?_
 rintro _ _ ⟨b2, rfl, rfl⟩
 refine ka (b := b1) (o' := am ([(0, 2, 1)].flatMap en) 85) rfl ?_
 refine ka (b := b2) (o' := am ([(0, 1)].flatMap d5) 87) rfl ?_
 refine E3 (fun v _ => v = .bool true) (fun v B hv => ⟨R, ⟨hv, rfl⟩, Eo⟩) fun W hW => ?_
 have hok := Ej hW
 clear hW
 refine a7 rfl (cq bW EL (aK aC (aK eV (aK lV (aK np (aK jP (aK i6 (aK aC (aK aC cp)))))))) (bB rfl eV rfl rfl (Nat.le_of_ble_eq_true rfl) SetL.eq (bB rfl i6 rfl rfl (Nat.le_of_ble_eq_true rfl) SetL.eq (bB rfl aC rfl rfl (Nat.le_of_ble_eq_true rfl) SetL.eq co)))) ?_
 refine a7 rfl (cq sJ zeroValue92 (aK sizeOf88 (aK sizeOf89 (aK sizeOf90 cp))) co) ?_
 refine ah rfl (aS call28 rfl (Cp W _ (d3 b1 b2) hok (s5 b1 b2) rfl)) ?_
 rintro _ B_ ⟨m, rfl, hB_, hdx⟩
 obtain rfl := hB_.symm
 have hx : m.x = ⟨[], [], List.replicate 32 dy⟩ := (Option.some.inj (Em.symm.trans hdx)).symm
 refine gm (El m (d3 b1 b2) (gF (d3 b1 b2)) []) ?_
 rw [Eb]
 refine a7 rfl (ab rfl) (a7 rfl (aW rfl rfl) (a7 rfl (aW rfl rfl) (a7 rfl (ag rfl) (a7 rfl (ag rfl) (ac (a8 (aa (aa (ae (a7 rfl (ab rfl) (a7 rfl (dx sT rfl rfl) (a7 rfl (ab rfl) ?_))))))))))))
 refine bJ rfl rfl rfl ?_ ?_
 intro g2_3
 first | exact absurd g2_3 (by decide) | (cases g2_3)
 intro g2_3
 refine a7 rfl (ab rfl) (av rfl rfl (a7 rfl (bT rfl rfl) (a7 rfl (aX rfl rfl) (a7 rfl (ab rfl) ?_))))
 refine bJ rfl rfl rfl ?_ ?_
 intro g2_7
 first | exact absurd g2_7 (by decide) | (cases g2_7)
 intro g2_7
 refine a7 rfl (ab rfl) (av rfl rfl (ah rfl (fc (B := bn m (d3 b1 b2) [bQ, bQ, bQ] [] ++ []) (show Ent _ (bn m (d3 b1 b2) [bQ, bQ, bQ] []) from inferInstance) (aS sZ rfl (py (Y := []) (some ⟨m.hv, 0, none⟩) (bn m (d3 b1 b2) [bQ, bQ, bQ] []) (qN (d3 b1 b2) [bQ, bQ, bQ]) (wP W b1 b2 m _ hok (dI.new 3) rfl hx)))) ?_))
 rintro _ B_ ⟨a, cap, rfl, hB_⟩
 obtain rfl := hB_.symm
 rw [Eh]
 refine gm (Ent.drop.trans (show Ent (bn m (d3 b1 b2) [bQ, bQ, bQ] [] ++ []) (bn m (d3 b1 b2) [bQ, bQ, bQ] []) from ent_refl)) ?_
 refine av rfl rfl (a7 rfl (aY dd rfl) (av rfl rfl (a7 rfl (bT rfl rfl) (a7 rfl (aX rfl rfl) (a7 rfl (ab rfl) ?_)))))
 refine bJ rfl rfl rfl ?_ ?_
 intro g2_13
 first | exact absurd g2_13 (by decide) | (simp at g2_13)
 intro g2_13
 refine a7 rfl (ab rfl) ?_
 skip
 refine av rfl rfl (ah rfl (aF fH rfl (fC m.hv (d3 b1 b2) m.ho m.a m.cap m.tb m.ib 0)) ?_)
 rintro _ B_ ⟨rfl, hB_⟩
 obtain rfl := hB_.symm
 refine av rfl rfl (ah rfl (aF pP rfl (mQ m.ho (d3 b1 b2) m.ps m.pb m.db m.qb m.gb)) ?_)
 rintro _ B_ ⟨rfl, hB_⟩
 obtain rfl := hB_.symm
 refine av rfl rfl ?_
 refine ah rfl (aF call29 rfl (tN W _ m.ps [bQ, bQ, bQ] 2 0 1 7 (by decide) (dI.new 3))) ?_
 rintro _ B_ ⟨rfl, hB_⟩
 obtain rfl := hB_.symm
 rw [if_pos Eg]
 refine av rfl rfl (a7 rfl (bT rfl rfl) (a7 rfl (aX rfl rfl) (ac (a8 ?_))))
 refine au rfl ?_ ?_
 intro c2
 first | exact absurd c2 (by decide) | (simp at c2)
 intro c2
 refine aA (a8 (aa (ae (a7 rfl (ab rfl) (ah rfl (fc (B := bn m (d3 b1 b2) j7 [] ++ []) (show Ent _ (bn m (d3 b1 b2) j7 []) from inferInstance) (aS sZ rfl (py (Y := []) (some ⟨m.hv, 0, none⟩) (bn m (d3 b1 b2) j7 []) (qN (d3 b1 b2) j7) (wP W b1 b2 m _ hok wM.1 wM.2 hx)))) ?_)))))
 rintro _ B_ ⟨a4, cap4, rfl, hB_⟩
 obtain rfl := hB_.symm
 rw [Ei]
 refine gq (fun h1 h2 => by cases h2) fun gl nn c2_ sp h1 h2 h3 h4 h5 => ?_
 cases h1
 refine a7 rfl (ag rfl) (ac (a8 (aa (ae (a7 rfl (ab rfl) (a7 rfl (aY dd rfl) (a7 rfl (cu rfl rfl) (a7 rfl (ab rfl) ?_))))))))
 refine dh rfl rfl rfl ?_ ?_
 intro g5_4
 refine a7 rfl (ab rfl) (av rfl rfl ?_)
 refine a7 rfl (bK dd aC rfl rfl (j := 0) rfl (by decide) (by first | exact Nat.zero_add _ | rfl)) ?_
 refine av rfl rfl (a7 rfl (ap aM rfl (az rfl)) ?_)
 refine av rfl rfl (a7 rfl (cu rfl rfl) (a7 rfl (bI rfl rfl) (a7 rfl (ab rfl) ?_)))
 refine dh rfl rfl rfl ?_ ?_
 intro g5_10
 refine ah rfl (aS call8 rfl (wO)) ?_
 rintro _ B_ ⟨rfl, hB_⟩
 obtain rfl := hB_.symm
 refine av rfl rfl (a7 rfl (cu rfl rfl) (a7 rfl (bI rfl rfl) (a7 rfl (ag rfl) (ac (a8 (ao (ak (.inl rfl) (.cons (aj rfl) .nil) ?_)))))))
 exact ⟨_, rfl, ent_refl⟩
 intro g5_10
 first | exact absurd (by decide) g5_10 | exact absurd rfl g5_10
 intro g5_4
 first | exact absurd (by decide) g5_4 | exact absurd rfl g5_4
theorem pB (W0 : World) (A : List HP) (p : Option Addr) (h : Zo ir p A) (i : Int) : ax Tryz.prog W0 6 [.pointer p, .int .i64 i] A (fun v B => v = .bool false ∧ B = A) := by
 refine aB func6 ntmps6 rfl rfl ?_
 refine aa (ae (a7 rfl (ag rfl) (ac (a8 (aa (aa (ae (a7 rfl (ab rfl) (ah rfl (aS fH rfl (DZ W0 _ p h)) ?_)))))))))
 rintro _ B_ ⟨rfl, hB_⟩
 obtain rfl := hB_.symm
 refine a7 rfl (dx xD rfl rfl) (a7 rfl (ab rfl) ?_)
 refine bJ rfl rfl rfl ?_ ?_
 intro g1_4
 refine aD rfl rfl rfl rfl (a7 rfl (bI rfl rfl) (a7 rfl (ab rfl) (aD rfl rfl rfl rfl (aD rfl rfl rfl rfl (a7 rfl (bI rfl rfl) (ac (a8 (cI rfl (aa (ae (a7 rfl (ag rfl) (ac (a8 (ao (aJ (ak (.inl rfl) (.cons (aj rfl) .nil) ?_))))))))))))))))
 exact ⟨_, ⟨rfl, rfl⟩, inferInstance⟩
 intro g1_4
 exact absurd rfl g1_4
theorem Er (W0 : World) (i : Int) : ax Tryz.prog W0 3 [.int .i64 i] [] (fun v B => v = .bool true ∧ B = []) := by
 refine aB xW ntmps3 rfl rfl ?_
 refine aa (ae (a7 rfl (ag rfl) (ac (a8 (aa (ae (a7 rfl (ag rfl) (ac (a8 (aa (ae (ah rfl (cH EI) ?_))))))))))))
 rintro _ _ ⟨bu, rfl, rfl⟩
 refine ac (a8 (aa (ae (a7 rfl (ab rfl) (a7 rfl (ab rfl) (ah rfl (aS xV rfl (pB W0 _ none (.inl rfl) i)) ?_))))))
 rintro _ B_ ⟨rfl, hB_⟩
 obtain rfl := hB_.symm
 refine a7 rfl (bM rfl) (a7 rfl (ab rfl) ?_)
 refine dh rfl rfl rfl ?_ ?_
 intro g3_5
 refine a7 rfl (ab rfl) (av rfl rfl (ah rfl (aS xV rfl (pB W0 _ (some ⟨bu, 0, none⟩) (.inr ⟨bu, rfl, inferInstance⟩) i)) ?_))
 rintro _ B_ ⟨rfl, hB_⟩
 obtain rfl := hB_.symm
 refine av rfl rfl (a7 rfl (bM rfl) (a7 rfl (bI rfl rfl) (a7 rfl (ab rfl) ?_)))
 refine dh rfl rfl rfl ?_ ?_
 intro g3_10
 refine a7 rfl (ab rfl) (av rfl rfl ?_)
 refine ah rfl (fc (B := [] ++ (pt bu ir :: [])) (show Ent _ (pt bu ir :: []) from inferInstance) (aS sZ rfl (py (Y := pt bu ir :: []) none [] (fun _ => false) (fun n X h1 h9 => pB W0 _ none (.inl rfl) n)))) ?_
 rintro _ B_ ⟨a, cap, rfl, hB_⟩
 obtain rfl := hB_.symm
 rw [show cZ (fun _ => false) 9 = [1, 2, 3, 4, 5, 6, 7, 8, 9] from rfl]
 refine gm (Ent.drop.trans (show Ent ([] ++ (pt bu ir :: [])) (pt bu ir :: []) from ent_refl)) ?_
 refine av rfl rfl (a7 rfl (aY dd rfl) (av rfl rfl (a7 rfl (cu rfl rfl) (a7 rfl (bI rfl rfl) (a7 rfl (ab rfl) ?_)))))
 refine dh rfl rfl rfl ?_ ?_
 intro g3_16
 refine ah rfl (fc (B := [pt bu ir] ++ []) (show Ent _ (pt bu ir :: []) from inferInstance) (aS sZ rfl (py (Y := []) (some ⟨bu, 0, none⟩) [pt bu ir] (fun _ => false) (fun n X h1 h9 => pB W0 _ (some ⟨bu, 0, none⟩) (.inr ⟨bu, rfl, Ent.cons wN⟩) n)))) ?_
 rintro _ B_ ⟨a, cap, rfl, hB_⟩
 obtain rfl := hB_.symm
 rw [show cZ (fun _ => false) 9 = [1, 2, 3, 4, 5, 6, 7, 8, 9] from rfl]
 refine av rfl rfl (a7 rfl (aY dd rfl) (av rfl rfl (ah rfl (aS call8 rfl (wO)) ?_)))
 rintro _ B_ ⟨rfl, hB_⟩
 obtain rfl := hB_.symm
 refine av rfl rfl (a7 rfl (cu rfl rfl) (a7 rfl (bI rfl rfl) (a7 rfl (ab rfl) ?_)))
 refine dh rfl rfl rfl ?_ ?_
 intro g3_22
 refine ah rfl (aS call9 rfl (Ep)) ?_
 rintro _ B_ ⟨rfl, hB_⟩
 obtain rfl := hB_.symm
 refine a7 rfl (bI rfl rfl) (a7 rfl (ag rfl) (ac (a8 (ao (ak (.inl rfl) (.cons (aj rfl) .nil) ?_)))))
 exact ⟨_, ⟨rfl, rfl⟩, wN⟩
 intro g3_22
 exact absurd (by decide) g3_22
 intro g3_16
 exact absurd (by decide) g3_16
 intro g3_10
 exact absurd (by decide) g3_10
 intro g3_5
 exact absurd (by decide) g3_5
end
section
open Go.ChangeShapes Go.WideShapes Go.ChangeAt Go.RowKit
set_option linter.unusedSimpArgs false
set_option linter.unusedVariables false
theorem own : ownKnob Tryz.prog.godebug = none := by kernel_rfl
theorem Es : laidOutB Tryz.prog = true := by kernel_rfl
variable {W : World} {v : Value}
end
section
open Go.ChangeShapes Go.WideShapes Go.ChangeAt Go.RowKit
set_option linter.unusedSimpArgs false
set_option linter.unusedVariables false
variable {W : World} {v : Value}
end
section
open Go.ChangeShapes Go.WideShapes Go.ChangeAt Go.RowKit
set_option linter.unusedSimpArgs false
set_option linter.unusedVariables false
variable {W : World} {v : Value}
end
end Go.Proofs.YtofillmoflhijaaGreat
