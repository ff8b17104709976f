/-
  Part 3 of the proof of HcallWho: rules, and walks of functions. Conditions: none.
-/
import Derived.Test.YtofillmoflhijaaGreatHcallWhoB
namespace Go.Proofs.YtofillmoflhijaaGreat
open Go.Proofs.Tryz
set_option linter.unusedSimpArgs false
set_option linter.unusedVariables false
set_option maxRecDepth 20000
set_option linter.defProp false
set_option synthInstance.maxSize 8192
set_option synthInstance.maxHeartbeats 2000000
variable {W0 : World} {R : List HP}
section
open Go.RowKit
def vN (d : Dsc) : Bool := decide (d.flags / 2 % 2 = 1)
def vP (d : Dsc) : Bool := decide (d.flags % 2 = 1)
def rR (r : Rg3) (at_ : Nat) : Nat := (r.desc + 16 * at_) % 4294967296
def lR (fr : List bZ) (pg : List Pl) (r : Rg3) (at_ : Nat) : Dsc := if rQ fr.length pg (rR r at_) 16 then Aq (Bq fr pg (rR r at_) 16) else zD
def lk (fr : List bZ) (pg : List Pl) (r : Rg3) (at_ : Int) (n : Nat) (wr : Bool) : Dsc × Int :=
  if at_ < 0 ∨ r.n ≤ at_ then (zD, 1) else if r.n ≤ (n : Int) then (zD, 2) else
  if rQ fr.length pg (rR r at_.toNat) 16 = false then (zD, 5) else
  if vg (lR fr pg r at_.toNat) r.n.toNat ≠ 0 then (zD, vg (lR fr pg r at_.toNat) r.n.toNat) else
  if rQ fr.length pg (lR fr pg r at_.toNat).addr (lR fr pg r at_.toNat).len = false then (zD, 5) else
  if wr = true ∧ vN (lR fr pg r at_.toNat) = false then (zD, 6) else (lR fr pg r at_.toNat, 0)
abbrev vQ := Int × Bool × List Dsc
def vR (fr : List bZ) (pg : List Pl) (r : Rg3) (n : Nat) (x : vQ) : Dsc × Int := lk fr pg r x.1 n x.2.1
def rS (fr : List bZ) (pg : List Pl) (r : Rg3) (head : Int) : Nat → vQ
 | 0 => (head, false, [])
 | n + 1 => let d := (vR fr pg r n (rS fr pg r head n)).1; ((d.next : Int), vN d, (rS fr pg r head n).2.2 ++ [d])
abbrev oY (fr : List bZ) (pg : List Pl) (r : Rg3) (head : Int) (n : Nat) : Dsc × Int := vR fr pg r n (rS fr pg r head n)
def rT (fr : List bZ) (pg : List Pl) (r : Rg3) (head : Int) (n : Nat) : Prop := ∀ m, m < n → (oY fr pg r head m).2 = 0 ∧ vP (oY fr pg r head m).1 = true
theorem rT.succ {fr : List bZ} {pg : List Pl} {r : Rg3} {head : Int} {n : Nat} (h : rT fr pg r head n) (h1 : (oY fr pg r head n).2 = 0) (h2 : vP (oY fr pg r head n).1 = true) : rT fr pg r head (n + 1) := fun m hm => by
 rcases Nat.lt_or_ge m n with q | q
 exact h m q
 rw [show m = n by omega]; exact ⟨h1, h2⟩
section
variable {W0 : World} {N : FSz} {K : Act → World → Prop} {e : bQ} {A R R1 R2 : List HP} {b n c : Nat} {l : List Dsc} {a : Option Addr} {ys : List Value}
end
def e9 (p : Value × bZ) : HP := osl 5 1 p.1 (cd p.2)
def cZ (qs : Nat) (fr : List bZ) : HP := chk (fun C => ∃ a c, ∃ vs : List Value, vs.length = fr.length ∧ C = pt qs (ax [.slice a fr.length c] 193) :: osl 174 1 (.slice a fr.length c) vs :: (vs.zip fr).map e9)
section
variable {P : Program} {W0 : World} {N : FSz} {K : Act → World → Prop} {e : bQ} {A B R R1 R2 : List HP} {qs g n : Nat} {fr : List bZ} {f : FuncId} {args : List Value} {Post : Value → List HP → Prop} {l : List Value}
theorem kQ [hk : Tk cZ qs A fr R] (h : ∀ a c vs, vs.length = fr.length → aT W0 N K e (pt qs (ax [.slice a fr.length c] 193) :: osl 174 1 (.slice a fr.length c) vs :: ((vs.zip fr).map e9 ++ R))) : aT W0 N K e A :=
  ed (r := cZ) (b := qs) (jh fun C hC => by obtain ⟨a, c, vs, h1, rfl⟩ := hC; exact h a c vs h1)
theorem kR {a : Option Addr} {c : Nat} {vs : List Value} [h1 : Tk pt qs A (ax [.slice a n c] 193) R1] [h2 : Tk (osl 174 1) (.slice a n c) R1 vs ((vs.zip fr).map e9 ++ R2)] (hv : vs.length = fr.length) (hn : n = fr.length) [k : Ent R2 B] : Ent A (cZ qs fr :: B) := by
 subst hn
 have e1 : A.Perm ((pt qs (ax [.slice a fr.length c] 193) :: osl 174 1 (.slice a fr.length c) vs :: (vs.zip fr).map e9) ++ R2) := h1.perm.trans (h2.perm.cons _)
 have e2 : Ent ((pt qs (ax [.slice a fr.length c] 193) :: osl 174 1 (.slice a fr.length c) vs :: (vs.zip fr).map e9) ++ R2) (cZ qs fr :: R2) := eZ ⟨a, c, vs, hv, rfl⟩
 exact (Ent.ofPerm e1).trans (e2.trans (Ent.cons k))
theorem vS {α : Type} : ∀ (l : List α) (i : Nat) (h : i < l.length), l.Perm (l[i] :: l.eraseIdx i)
 | x :: l, 0, h => by simp
 | x :: l, i + 1, h => by
  simp only [List.getElem_cons_succ, List.eraseIdx_cons_succ]
  exact ((vS l i (by simpa using h)).cons x).trans (List.Perm.swap _ _ _)
theorem vT {α : Type} : ∀ (l : List α) (i : Nat) (x : α) (h : i < l.length), (x :: l.eraseIdx i).Perm (l.set i x)
 | y :: l, 0, x, h => by simp
 | y :: l, i + 1, x, h => by
  simp only [List.set_cons_succ, List.eraseIdx_cons_succ]
  exact (List.Perm.swap _ _ _).trans ((vT l i x (by simpa using h)).cons y)
theorem lS {E sz : Nat} {v : Value} {xs : List Value} [hk : Tk (osl E sz) v A xs R] (h0 : v = .slice none 0 0 → xs = [] → aT W0 N K e R)
    (h1 : ∀ g n cap sp, v = .slice (some ⟨g, 0, none⟩) n cap → n ≤ cap → cap ≤ maxLen → xs.length = n * sz → (xs ++ sp).length = cap * sz → aT W0 N K e (pt g (ax (xs ++ sp) E) :: R)) : aT W0 N K e A :=
  ed (r := osl E sz) (b := v) (gN h0 h1)
theorem rU [hk : Tk cZ qs A fr R] {i : Nat} (hi : i < fr.length) (h : ∀ a c vs vi, vs.length = fr.length → vs[i]? = some vi →
      aT W0 N K e (pt qs (ax [.slice a fr.length c] 193) :: osl 174 1 (.slice a fr.length c) vs :: osl 5 1 vi (cd (fr.getD i [])) :: (((vs.zip fr).map e9).eraseIdx i ++ R))) : aT W0 N K e A := by
 refine kQ (qs := qs) fun a c vs hv => ?_
 have hlen : ((vs.zip fr).map e9).length = fr.length := by simp [hv]
 have hiv : i < vs.length := by omega
 have hg : ((vs.zip fr).map e9)[i]'(by omega) = osl 5 1 vs[i] (cd (fr.getD i [])) := by simp [e9, List.getD, hi]
 have hp := vS ((vs.zip fr).map e9) i (by omega)
 rw [hg] at hp
 exact qd (((hp.append_right R).cons _).cons _) (h a c vs vs[i] hv (by simp [hiv]))
theorem Br {a : Option Addr} {c i : Nat} {vs : List Value} {vi : Value} {y : bZ} {ys : List Value} {R3 : List HP} [h1 : Tk pt qs A (ax [.slice a n c] 193) R1] [h2 : Tk (osl 174 1) (.slice a n c) R1 (vs.set i vi) R2] [h3 : Tk (osl 5 1) vi R2 ys (((vs.zip fr).map e9).eraseIdx i ++ R3)]
    (hy : ys = cd y) (hv : vs.length = fr.length) (hn : n = fr.length) (hi : i < fr.length) [k : Ent R3 B] : Ent A (cZ qs (fr.set i y) :: B) := by
 subst hy
 have e1 : A.Perm (pt qs (ax [.slice a n c] 193) :: osl 174 1 (.slice a n c) (vs.set i vi) :: ((((vs.set i vi).zip (fr.set i y)).map e9) ++ R3)) := by
  refine h1.perm.trans ((h2.perm.trans ((h3.perm.trans ?_).cons _)).cons _)
  have hs : ((vs.set i vi).zip (fr.set i y)).map e9 = ((vs.zip fr).map e9).set i (e9 (vi, y)) := by
   apply List.ext_getElem
   simp
   intro j h1 h2
   by_cases e : j = i
   subst e; simp
   have e' : ¬ i = j := fun h => e h.symm
   simp [List.getElem_set, e']
  rw [hs]
  have := vT ((vs.zip fr).map e9) i (e9 (vi, y)) (by simp [hv]; exact hi)
  exact this.append_right R3
 exact (Ent.ofPerm e1).trans (kR (vs := vs.set i vi) (by simp [hv]) (by simp [hn]))
theorem rV {c i g2 n2 c2 : Nat} {vs vs' sp sp2 ys : List Value} {y : bZ} {vi : Value} {R3 : List HP} [h1 : Tk pt qs A (ax [.slice (some ⟨g, 0, none⟩) n c] 193) R1] [h2 : Tk pt g R1 (ax (vs' ++ sp) 174) R2] [h3 : Tk pt g2 R2 (ax (ys ++ sp2) 5) R3]
    (hvs : vs' = vs.set i vi) (hvi : vi = .slice (some ⟨g2, 0, none⟩) n2 c2) (hy : ys = cd y) (hv : vs.length = fr.length) (hn : n = fr.length) (hi : i < fr.length) (a1 : n ≤ c) (a2 : c ≤ maxLen) (a3 : (vs' ++ sp).length = c * 1) (b1 : n2 ≤ c2) (b2 : c2 ≤ maxLen) (b3 : ys.length = n2 * 1) (b4 : (ys ++ sp2).length = c2 * 1) [k : Ent R3 (((vs.zip fr).map e9).eraseIdx i ++ B)] : Ent A (cZ qs (fr.set i y) :: B) := by
 subst hvs
 subst hvi
 have e1 : A.Perm (pt qs (ax [.slice (some ⟨g, 0, none⟩) n c] 193) :: pt g (ax (vs.set i (.slice (some ⟨g2, 0, none⟩) n2 c2) ++ sp) 174) :: pt g2 (ax (ys ++ sp2) 5) :: R3) := h1.perm.trans ((h2.perm.trans (h3.perm.cons _)).cons _)
 have e2 : Ent (pt g2 (ax (ys ++ sp2) 5) :: R3) (osl 5 1 (.slice (some ⟨g2, 0, none⟩) n2 c2) ys :: (((vs.zip fr).map e9).eraseIdx i ++ B)) := fa b1 b2 b3 b4
 have e3 : Ent (pt g (ax (vs.set i (.slice (some ⟨g2, 0, none⟩) n2 c2) ++ sp) 174) :: osl 5 1 (.slice (some ⟨g2, 0, none⟩) n2 c2) ys :: (((vs.zip fr).map e9).eraseIdx i ++ B)) (osl 174 1 (.slice (some ⟨g, 0, none⟩) n c) (vs.set i (.slice (some ⟨g2, 0, none⟩) n2 c2)) :: osl 5 1 (.slice (some ⟨g2, 0, none⟩) n2 c2) ys :: (((vs.zip fr).map e9).eraseIdx i ++ B)) := fa a1 a2 (by simp [hv, hn]) a3
 exact (Ent.ofPerm e1).trans ((Ent.cons ((Ent.cons e2).trans e3)).trans (Br (vi := .slice (some ⟨g2, 0, none⟩) n2 c2) hy hv hn hi))
end
theorem Bs {fr : List bZ} {i : Nat} (hi : i < fr.length) : fr.set i (fr.getD i []) = fr := by
 rw [show fr.getD i [] = fr[i] by simp [List.getD, hi]]; exact List.set_getElem_self _
theorem Bt {vs : List Value} {i : Nat} {v : Value} (h : vs[i]? = some v) : vs.set i v = vs := by
 have hi : i < vs.length := by
  rcases Nat.lt_or_ge i vs.length with k | k
  exact k
  rw [List.getElem?_eq_none k] at h; cases h
 have : vs[i] = v := by simpa [hi] using h
 rw [← this]; exact List.set_getElem_self _
theorem nj (W0 : World) (R : List HP) (qs : Nat) (fr : List bZ) (f : Int) :
    aC Tryz.prog W0 192 [.pointer (some ⟨qs, 0, none⟩), .int .i64 f] (cZ qs fr :: R) (fun v B => v = .bool (dy fr.length f) ∧ B = cZ qs fr :: R) := by
 refine aG func192 ntmps192 rfl rfl ?_
 refine ae (ah (aa rfl (ai rfl) (ag (ab (ae ?_)))))
 refine kQ (qs := qs) fun a c vs hv => ?_
 refine ah (aa rfl (ac rfl) (aa rfl (cK rfl rfl) (aa rfl (ac rfl) ?_)))
 refine cJ rfl rfl rfl ?_ ?_
 intro g1_3
 refine aa rfl (ac rfl) (ar rfl rfl (aa rfl (ac rfl) (ar rfl rfl (aa rfl (aF rfl) (ar rfl rfl ?_)))))
 refine aa rfl (al rfl iD rfl gJ rfl (by first | exact Nat.zero_add _ | rfl)) ?_
 refine ar rfl rfl (aa rfl (ao jc rfl (aA rfl)) ?_)
 refine ar rfl rfl (aa rfl (bu ig rfl) (ar rfl rfl (aa rfl (b0 rfl rfl) (aa rfl (aY rfl rfl) (aa rfl (ai rfl) (ag (ab (av (au (.inl rfl) (.cons (ak rfl) .nil) ?_)))))))))
 refine ⟨_, ⟨congrArg Value.bool ?_, rfl⟩, kR hv rfl⟩
 rw [Bool.eq_iff_iff]; simp only [dy, decide_eq_true_eq, Bool.false_eq_true, false_iff]; omega
 intro g1_3
 refine ap rfl rfl rfl rfl (ap rfl rfl rfl rfl (ap rfl rfl rfl rfl (ap rfl rfl rfl rfl (ap rfl rfl rfl rfl (ap rfl rfl rfl rfl (aa rfl (aM rfl rfl) (aa rfl (ai rfl) (ag (ab (av (au (.inl rfl) (.cons (ak rfl) .nil) ?_)))))))))))
 refine ⟨_, ⟨congrArg Value.bool ?_, rfl⟩, kR hv rfl⟩
 rw [Bool.eq_iff_iff]; simp only [dy, decide_eq_true_eq, Bool.false_eq_true, false_iff]; omega
theorem Bu {g off c n : Nat} {l : List Nat} {i k w : Nat} (hl : l.length = n) (hw : w < 4294967296) (hc : cY (bK W0 R) g off (cd l)) (hi : dw n i k = true) (hn : n ≤ 1000000) :
    aC Tryz.prog W0 362 [.slice (some ⟨g, off, none⟩) n c, .int .i64 i, .int .i64 k, .int .u32 w] R (fun v B => ∃ a' c', v = ov a' n c' ∧ B = osl 5 1 (.slice a' n c') (cd (gO l i k w)) :: R) := by
 subst hl; exact zm g off c l i k w hw hc hi hn
theorem Bv {x : bZ} {sp : List Value} (h : x.length = 64) : ((cd x ++ sp).drop 0).take 64 = cd x := by
 rw [List.drop_zero, List.take_left' (by rw [dR, h])]
theorem Bw (W0 : World) (R : List HP) (qs : Nat) (fr : List bZ) (f off w : Int) (x : Nat) (hx : x < 4294967296) (hF : dZ fr) :
    aC Tryz.prog W0 310 [.pointer (some ⟨qs, 0, none⟩), .int .i64 f, .int .i64 off, .int .i64 w, .int .u32 x] (cZ qs fr :: R)
      (fun v B => v = .int .i64 (if g7 fr f off w then 0 else 1) ∧ B = cZ qs (f0 fr f off w x) :: R) := by
 by_cases hf : dy fr.length f = true
 obtain ⟨i, rfl, hi⟩ := ow hf
 obtain ⟨hl, hb⟩ := hF.get hi
 by_cases hin : dw 64 off w = true
 obtain ⟨o, k, rfl, rfl, hk, hok⟩ := kD hin
 have hs : g7 fr i o k = true := by simp [g7, hf, hin]
 have hpl : (gO (fr.getD i []) o k x).length = 64 := by rw [kC (by omega)]; exact hl
 refine aG xQ ntmps310 rfl rfl ?_
 refine ae (ah (aa rfl (ai rfl) (ag (ab (ae (ae (ah (aa rfl (ac rfl) (aa rfl (ac rfl) (am rfl (bn pM rfl (nj W0 _ qs fr i)) ?_))))))))))
 rintro _ B_ ⟨rfl, hB_⟩
 obtain rfl := hB_.symm
 refine aa rfl (bM rfl) (ag (ab ?_))
 refine aw rfl ?_ ?_
 intro c1
 exact absurd c1 (by simp [hf])
 intro c1
 refine aB (ab (ae ?_))
 refine rU (qs := qs) hi fun a c vs vi hv hvi => ?_
 refine lS (E := 5) (sz := 1) (v := vi) (fun h1 h2 => by have := congrArg List.length h2; rw [dR, hl] at this; cases this) fun g2 n2 c2 sp2 k1 k2 k3 k4 k5 => ?_
 obtain rfl : n2 = 64 := by rw [dR, hl] at k4; omega
 subst k1
 refine lS (E := 174) (sz := 1) (v := .slice a fr.length c) (fun h1 h2 => by have := (Value.slice.inj h1).2.1; omega) fun g n c' sp h1 h2 h3 h4 h5 => ?_
 cases h1
 refine ah (aa rfl (ac rfl) (aa rfl (aF rfl) ?_))
 refine aa rfl (al rfl iD rfl gJ rfl (by first | exact Nat.zero_add _ | rfl)) ?_
 refine aa rfl (ao jc rfl (aA rfl)) ?_
 refine aa rfl (ac rfl) ?_
 refine aa rfl (ce ig kj rfl rfl rfl hi (by first | exact Nat.zero_add _ | rfl)) ?_
 refine aa rfl (ao isAgg174 rfl (aA (by rw [Nat.mul_one, List.getElem?_append_left (by omega)]; exact hvi))) ?_
 refine aa rfl (ac rfl) (aa rfl (ac rfl) (aa rfl (ac rfl) ?_))
 refine am rfl (aU call362 rfl (Bu hl hx (fN (Bv hl) (by rw [dR, hl])) hin (by decide))) ?_
 rintro _ B_ ⟨a', c', rfl, hB_⟩
 obtain rfl := hB_.symm
 refine lS (E := 5) (sz := 1) (v := .slice a' 64 c') (fun h1 h2 => by have := (Value.slice.inj h1).2.1; omega) fun g3 n3 c3 sp3 q1 q2 q3 q4 q5 => ?_
 cases q1
 refine aa rfl (ac rfl) (aa rfl (aS rfl rfl) (aa rfl (aS rfl rfl) (aa rfl (ai rfl) (aa rfl (ai rfl) (ag (ab (ae (ae (ah (aa rfl (ac rfl) (aa rfl (cu rfl rfl) (ag (ab ?_)))))))))))))
 refine aw rfl ?_ ?_
 intro c4
 refine ah (aa rfl (ac rfl) (aa rfl (aF rfl) ?_))
 refine aa rfl (al rfl iD rfl gJ rfl (by first | exact Nat.zero_add _ | rfl)) ?_
 refine aa rfl (ao jc rfl (aA rfl)) ?_
 refine aa rfl (ac rfl) (aa rfl (ac rfl) ?_)
 refine aa rfl (ce ig kj rfl rfl rfl hi (by first | exact Nat.zero_add _ | rfl)) ?_
 refine bD (cm kj rfl rfl rfl (by rw [List.length_append]; omega) (by rw [Nat.mul_one, List.set_append_left _ _ (by omega)])) ?_
 rintro _ _ rfl
 refine ag (ab (ae (ah (aa rfl (ac rfl) (aa rfl (ai rfl) (ag (ab (av (au (.inl rfl) (.cons (ak rfl) .nil) ?_)))))))))
 rw [show f0 fr i o k x = fr.set i (gO (fr.getD i []) o k x) by simp [f0, hs]]
 exact ⟨_, ⟨by simp [cH, hs], rfl⟩, rV (vs := vs) (vi := .slice (some ⟨g3, 0, none⟩) 64 c') rfl rfl rfl hv rfl hi h2 h3 (by rw [← h5]; simp) q2 q3 q4 q5⟩
 intro c4
 exact absurd rfl c4
 have hin' : dw 64 off w = false := by simpa using hin
 have hs : g7 fr i off w = false := by simp [g7, hin']
 refine aG xQ ntmps310 rfl rfl ?_
 refine ae (ah (aa rfl (ai rfl) (ag (ab (ae (ae (ah (aa rfl (ac rfl) (aa rfl (ac rfl) (am rfl (bn pM rfl (nj W0 _ qs fr i)) ?_))))))))))
 rintro _ B_ ⟨rfl, hB_⟩
 obtain rfl := hB_.symm
 refine aa rfl (bM rfl) (ag (ab ?_))
 refine aw rfl ?_ ?_
 intro c1
 exact absurd c1 (by simp [hf])
 intro c1
 refine aB (ab (ae ?_))
 refine rU (qs := qs) hi fun a c vs vi hv hvi => ?_
 refine lS (E := 5) (sz := 1) (v := vi) (fun h1 h2 => by have := congrArg List.length h2; rw [dR, hl] at this; cases this) fun g2 n2 c2 sp2 k1 k2 k3 k4 k5 => ?_
 obtain rfl : n2 = 64 := by rw [dR, hl] at k4; omega
 subst k1
 refine lS (E := 174) (sz := 1) (v := .slice a fr.length c) (fun h1 h2 => by have := (Value.slice.inj h1).2.1; omega) fun g n c' sp h1 h2 h3 h4 h5 => ?_
 cases h1
 refine ah (aa rfl (ac rfl) (aa rfl (aF rfl) ?_))
 refine aa rfl (al rfl iD rfl gJ rfl (by first | exact Nat.zero_add _ | rfl)) ?_
 refine aa rfl (ao jc rfl (aA rfl)) ?_
 refine aa rfl (ac rfl) ?_
 refine aa rfl (ce ig kj rfl rfl rfl hi (by first | exact Nat.zero_add _ | rfl)) ?_
 refine aa rfl (ao isAgg174 rfl (aA (by rw [Nat.mul_one, List.getElem?_append_left (by omega)]; exact hvi))) ?_
 refine aa rfl (ac rfl) (aa rfl (ac rfl) (aa rfl (ac rfl) ?_))
 refine am rfl (aU call362 rfl (zn W0 _ _ 64 c2 off w x hin' (by decide))) ?_
 rintro _ B_ ⟨rfl, hB_⟩
 obtain rfl := hB_.symm
 refine aa rfl (ac rfl) (aa rfl (aS rfl rfl) (aa rfl (aS rfl rfl) (aa rfl (ai rfl) (aa rfl (ai rfl) (ag (ab (ae (ae (ah (aa rfl (ac rfl) (aa rfl (cu rfl rfl) (ag (ab ?_)))))))))))))
 refine aw rfl ?_ ?_
 intro c4
 exact absurd c4 (by decide)
 intro c4
 refine aB (ab (ae (ah (aa rfl (ac rfl) (aa rfl (ai rfl) (ag (ab (av (au (.inl rfl) (.cons (ak rfl) .nil) ?_)))))))))
 rw [show f0 fr i off w x = fr by simp [f0, hs]]
 refine ⟨_, ⟨by simp [cH, hs], rfl⟩, ?_⟩
 have e := Bs hi
 conv => rhs; rw [← e]
 exact rV (vs := vs) (Bt hvi).symm rfl rfl hv rfl hi h2 h3 h5 k2 k3 k4 k5
 have hf' : dy fr.length f = false := by simpa using hf
 have hs : g7 fr f off w = false := by simp [g7, hf']
 refine aG xQ ntmps310 rfl rfl ?_
 refine ae (ah (aa rfl (ai rfl) (ag (ab (ae (ae (ah (aa rfl (ac rfl) (aa rfl (ac rfl) (am rfl (bn pM rfl (nj W0 _ qs fr f)) ?_))))))))))
 rintro _ B_ ⟨rfl, hB_⟩
 obtain rfl := hB_.symm
 refine aa rfl (bM rfl) (ag (ab ?_))
 refine aw rfl ?_ ?_
 intro c1
 refine ae (ah (aa rfl (ai rfl) (ag (ab (av (aE (au (.inl rfl) (.cons (ak rfl) .nil) ?_)))))))
 rw [show f0 fr f off w x = fr by simp [f0, hs]]
 exact ⟨_, ⟨by simp [cH, hs], rfl⟩, inferInstance⟩
 intro c1
 exact absurd c1 (by simp [hf'])
theorem rW {A B R1 R2 R3 : List HP} {qs n c g2 : Nat} {a : Option Addr} {vs ys : List Value} {vi : Value} {fr : List bZ} {y : bZ} [h1 : Tk pt qs A (ax [.slice a n c] 193) R1] [h2 : Tk (osl 174 1) (.slice a n c) R1 (vs ++ [vi]) R2] [h3 : Tk pt g2 R2 (ax ys 5) R3]
    (hvi : vi = .slice (some ⟨g2, 0, none⟩) 64 64) (hy : ys = cd y) (hl : y.length = 64) (hv : vs.length = fr.length) (hn : n = fr.length + 1) [k : Ent R3 ((vs.zip fr).map e9 ++ B)] : Ent A (cZ qs (fr ++ [y]) :: B) := by
 subst hvi; subst hy
 have e1 : A.Perm (pt qs (ax [.slice a n c] 193) :: osl 174 1 (.slice a n c) (vs ++ [.slice (some ⟨g2, 0, none⟩) 64 64]) :: pt g2 (ax (cd y ++ []) 5) :: R3) := by
  rw [List.append_nil]; exact h1.perm.trans ((h2.perm.trans (h3.perm.cons _)).cons _)
 have e2 : Ent (pt g2 (ax (cd y ++ []) 5) :: R3) (osl 5 1 (.slice (some ⟨g2, 0, none⟩) 64 64) (cd y) :: ((vs.zip fr).map e9 ++ B)) := fa (Nat.le_refl _) (by simp only [maxLen]; omega) (by rw [dR, hl]) (by rw [List.append_nil, dR, hl])
 have e3 : ((vs ++ [Value.slice (some ⟨g2, 0, none⟩) 64 64]).zip (fr ++ [y])).map e9 = (vs.zip fr).map e9 ++ [osl 5 1 (.slice (some ⟨g2, 0, none⟩) 64 64) (cd y)] := by
  rw [List.zip_append hv, List.map_append]; rfl
 have e4 : (osl 5 1 (.slice (some ⟨g2, 0, none⟩) 64 64) (cd y) :: ((vs.zip fr).map e9 ++ B)).Perm (((vs ++ [Value.slice (some ⟨g2, 0, none⟩) 64 64]).zip (fr ++ [y])).map e9 ++ B) := by
  rw [e3, List.append_assoc]; exact List.perm_middle.symm
 exact (Ent.ofPerm e1).trans ((Ent.cons (Ent.cons (e2.trans (Ent.ofPerm e4)))).trans (kR (vs := vs ++ [.slice (some ⟨g2, 0, none⟩) 64 64]) (by simp [hv]) (by simp [hn])))
theorem Bz (W0 : World) (R : List HP) (n : Nat) (h : n ≤ 32) :
    aC Tryz.prog W0 76 [.int .i64 n] R (fun v B => ∃ b, v = .tuple #[.pointer (some ⟨b, 0, none⟩), .int .i64 0] ∧ B = cZ b (List.replicate n bE) :: R) := by
 refine aG func76 ntmps76 rfl rfl ?_
 refine ae (ah (aa rfl (ai rfl) (aa rfl (ai rfl) (ag (ab (ae (ae (ah (aa rfl (ac rfl) (aa rfl (b0 rfl rfl) (aa rfl (ac rfl) ?_)))))))))))
 refine bC rfl rfl rfl ?_ ?_
 intro g1_3
 omega
 intro g1_3
 refine aa rfl (ac rfl) (ar rfl rfl (aa rfl (cy rfl rfl) (aa rfl (aM rfl rfl) (ag (ab ?_)))))
 refine aw rfl ?_ ?_
 intro c1
 omega
 intro c1
 refine aB (ab (ae (ah (aa rfl (bY iD zeroValue193 (aH gJ bX) bW) ?_))))
 refine am rfl (bJ rfl) ?_
 rintro _ _ ⟨b1, rfl, rfl⟩
 refine aa rfl (ai rfl) (ag (ab (ae (ae (ah (aa rfl (ai rfl) (ag (ab (aW ?_)))))))))
 refine cT (fun i : Nat => i ≤ n) (fun i => [(0, .int .i64 n), (4, .pointer (some ⟨b1, 0, none⟩)), (5, .int .i64 i)]) (fun i => cZ b1 (List.replicate i bE) :: R) (fun i => n - i) 0 ?_ ?_ ?_ ?_
 exact Nat.zero_le _
 · repeat (first | exact aX | refine aV rfl ?_)
 exact (Ent.cons (fH (B := R))).trans (eZ (R := R) (C := [_, _]) ⟨none, 0, [], rfl, rfl⟩)
 intro i hi
 refine ae (ae (ah (aa rfl (ac rfl) (aa rfl (ac rfl) (aa rfl (b0 rfl rfl) (ag (ab ?_)))))))
 refine aw rfl ?_ ?_
 intro c5
 refine aB (ab (ae (aW ?_)))
 refine kQ (qs := b1) fun a c vs hv => ?_
 rw [List.length_replicate] at hv ⊢
 refine cA [] 11 cz rfl aJ (fun hS => ?_)
 refine aj 0 rfl rfl (by kernel_rfl) (by kernel_rfl) (by kernel_rfl) rfl hS (ac rfl) ?_
 refine aj 1 rfl rfl (by kernel_rfl) (by kernel_rfl) (by kernel_rfl) rfl hS (ac rfl) ?_
 refine aj 2 rfl rfl (by kernel_rfl) (by kernel_rfl) (by kernel_rfl) rfl hS (aF rfl) ?_
 refine aj 3 rfl rfl (by kernel_rfl) (by kernel_rfl) (by kernel_rfl) rfl hS (al rfl iD rfl gJ rfl (by first | exact Nat.zero_add _ | rfl)) ?_
 refine io (is := [4, 5]) (by kernel_rfl) rfl ⟨?_, ?_, trivial⟩
 skip
 refine eD rfl rfl (eC (ao jc rfl (aA rfl))) rfl ?_; clear hS
 rintro _ _ ⟨rfl, rfl⟩
 refine ⟨aJ, fun hS => ?_⟩
 refine bA 5 (by kernel_rfl) rfl rfl (mM (sz := 1) (by_ := 1) (info := Tryz.t5) dI (by kernel_rfl) rfl rfl rfl rfl (by decide) rfl rfl rfl rfl (by decide) (by decide)) rfl ?_; clear hS
 rintro _ _ ⟨b2, rfl, rfl⟩
 refine ⟨aJ, fun hS => ?_⟩
 refine bA 6 (by kernel_rfl) rfl rfl (gD ig kj xR rfl rfl rfl rfl rfl (by decide) (by decide)) rfl ?_; clear hS
 rintro _ _ ⟨b3, rfl, rfl⟩
 refine ⟨aJ, fun hS => ?_⟩
 refine bA 7 (by kernel_rfl) rfl rfl (dP (sz := 1) (by_ := 24) (info := Tryz.t174) ig (by kernel_rfl) rfl rfl rfl rfl (by decide) rfl rfl dQ rfl rfl (by simp only [maxLen]; omega) (by omega)) rfl ?_; clear hS
 rintro _ B_ ⟨a1, c1, rfl, hB_⟩
 obtain rfl := hB_.symm
 refine ⟨aJ, fun hS => ?_⟩
 refine aj 8 rfl rfl (by kernel_rfl) (by kernel_rfl) (by kernel_rfl) rfl hS (aF rfl) ?_
 refine aj 9 rfl rfl (by kernel_rfl) (by kernel_rfl) (by kernel_rfl) rfl hS (al rfl iD rfl gJ rfl (by first | exact Nat.zero_add _ | rfl)) ?_
 refine bA 10 (by kernel_rfl) rfl rfl (cm gJ rfl rfl rfl (Nat.le_of_ble_eq_true rfl) SetL.eq) rfl ?_; clear hS
 rintro _ _ rfl
 refine ⟨aJ, fun hS => ?_⟩
 refine bL (by kernel_rfl) ?_; clear hS
 refine bH (ab (ah (aa rfl (ac rfl) ?_)))
 refine aa rfl (bF rfl rfl (by first | exact aZ (by omega) | rfl)) ?_
 refine aa rfl (ai rfl) (ag (ab ?_))
 refine cG (i + 1) ?_ ?_ ?_ ?_
 omega
 omega
 · repeat (first | exact aX | refine aV rfl ?_)
 rw [show List.replicate (i + 1) bE = List.replicate i bE ++ [bE] from List.replicate_succ']; exact rW (vs := vs) (n := i + 1) (a := a1) (c := c1) (g2 := b2) (ys := List.replicate (64 * 1) (.int .u8 0)) (y := bE) (vi := .slice (some ⟨b2, 0, none⟩) 64 64) (fr := List.replicate i bE) rfl rfl (by simp [bE]) (by simp [hv]) (by simp)
 skip
 refine eD rfl rfl (mM (sz := 1) (by_ := 1) (info := Tryz.t5) dI (by kernel_rfl) rfl rfl rfl rfl (by decide) rfl rfl rfl rfl (by decide) (by decide)) rfl ?_; clear hS
 rintro _ _ ⟨b2, rfl, rfl⟩
 refine ⟨aJ, fun hS => ?_⟩
 refine io (is := [4, 6]) (by kernel_rfl) rfl ⟨?_, ?_, trivial⟩
 skip
 refine eD rfl rfl (eC (ao jc rfl (aA rfl))) rfl ?_; clear hS
 rintro _ _ ⟨rfl, rfl⟩
 refine ⟨aJ, fun hS => ?_⟩
 refine bA 6 (by kernel_rfl) rfl rfl (gD ig kj xR rfl rfl rfl rfl rfl (by decide) (by decide)) rfl ?_; clear hS
 rintro _ _ ⟨b3, rfl, rfl⟩
 refine ⟨aJ, fun hS => ?_⟩
 refine bA 7 (by kernel_rfl) rfl rfl (dP (sz := 1) (by_ := 24) (info := Tryz.t174) ig (by kernel_rfl) rfl rfl rfl rfl (by decide) rfl rfl dQ rfl rfl (by simp only [maxLen]; omega) (by omega)) rfl ?_; clear hS
 rintro _ B_ ⟨a1, c1, rfl, hB_⟩
 obtain rfl := hB_.symm
 refine ⟨aJ, fun hS => ?_⟩
 refine aj 8 rfl rfl (by kernel_rfl) (by kernel_rfl) (by kernel_rfl) rfl hS (aF rfl) ?_
 refine aj 9 rfl rfl (by kernel_rfl) (by kernel_rfl) (by kernel_rfl) rfl hS (al rfl iD rfl gJ rfl (by first | exact Nat.zero_add _ | rfl)) ?_
 refine bA 10 (by kernel_rfl) rfl rfl (cm gJ rfl rfl rfl (Nat.le_of_ble_eq_true rfl) SetL.eq) rfl ?_; clear hS
 rintro _ _ rfl
 refine ⟨aJ, fun hS => ?_⟩
 refine bL (by kernel_rfl) ?_; clear hS
 refine bH (ab (ah (aa rfl (ac rfl) ?_)))
 refine aa rfl (bF rfl rfl (by first | exact aZ (by omega) | rfl)) ?_
 refine aa rfl (ai rfl) (ag (ab ?_))
 refine cG (i + 1) ?_ ?_ ?_ ?_
 omega
 omega
 · repeat (first | exact aX | refine aV rfl ?_)
 rw [show List.replicate (i + 1) bE = List.replicate i bE ++ [bE] from List.replicate_succ']; exact rW (vs := vs) (n := i + 1) (a := a1) (c := c1) (g2 := b2) (ys := List.replicate (64 * 1) (.int .u8 0)) (y := bE) (vi := .slice (some ⟨b2, 0, none⟩) 64 64) (fr := List.replicate i bE) rfl rfl (by simp [bE]) (by simp [hv]) (by simp)
 skip
 refine eD rfl rfl (gD ig kj xR rfl rfl rfl rfl rfl (by decide) (by decide)) rfl ?_; clear hS
 rintro _ _ ⟨b3, rfl, rfl⟩
 refine ⟨aJ, fun hS => ?_⟩
 refine bA 4 (by kernel_rfl) rfl rfl (eC (ao jc rfl (aA rfl))) rfl ?_; clear hS
 rintro _ _ ⟨rfl, rfl⟩
 refine ⟨aJ, fun hS => ?_⟩
 refine bA 7 (by kernel_rfl) rfl rfl (dP (sz := 1) (by_ := 24) (info := Tryz.t174) ig (by kernel_rfl) rfl rfl rfl rfl (by decide) rfl rfl dQ rfl rfl (by simp only [maxLen]; omega) (by omega)) rfl ?_; clear hS
 rintro _ B_ ⟨a1, c1, rfl, hB_⟩
 obtain rfl := hB_.symm
 refine ⟨aJ, fun hS => ?_⟩
 refine aj 8 rfl rfl (by kernel_rfl) (by kernel_rfl) (by kernel_rfl) rfl hS (aF rfl) ?_
 refine aj 9 rfl rfl (by kernel_rfl) (by kernel_rfl) (by kernel_rfl) rfl hS (al rfl iD rfl gJ rfl (by first | exact Nat.zero_add _ | rfl)) ?_
 refine bA 10 (by kernel_rfl) rfl rfl (cm gJ rfl rfl rfl (Nat.le_of_ble_eq_true rfl) SetL.eq) rfl ?_; clear hS
 rintro _ _ rfl
 refine ⟨aJ, fun hS => ?_⟩
 refine bL (by kernel_rfl) ?_; clear hS
 refine bH (ab (ah (aa rfl (ac rfl) ?_)))
 refine aa rfl (bF rfl rfl (by first | exact aZ (by omega) | rfl)) ?_
 refine aa rfl (ai rfl) (ag (ab ?_))
 refine cG (i + 1) ?_ ?_ ?_ ?_
 omega
 omega
 · repeat (first | exact aX | refine aV rfl ?_)
 rw [show List.replicate (i + 1) bE = List.replicate i bE ++ [bE] from List.replicate_succ']; exact rW (vs := vs) (n := i + 1) (a := a1) (c := c1) (g2 := b2) (ys := List.replicate (64 * 1) (.int .u8 0)) (y := bE) (vi := .slice (some ⟨b2, 0, none⟩) 64 64) (fr := List.replicate i bE) rfl rfl (by simp [bE]) (by simp [hv]) (by simp)
 intro c5
 refine cj (bi (bi (co (ab (ae (ah (aa rfl (ac rfl) (aa rfl (ai rfl) (aa rfl (ai rfl) (ag (ab (av (au (.inl rfl) (.cons (ak rfl) (.cons (ak rfl) .nil)) ?_)))))))))))))
 have : i = n := by omega
 subst this
 exact ⟨_, ⟨b1, rfl, rfl⟩, inferInstance⟩
def i8 (p : Pl) : Value := .bool (decide (p ≠ (0, 0)))
abbrev gv (pg : List Pl) : Obj := ax (pg.map i8 ++ pg.flatMap eO) 241
theorem vU {pg : List Pl} {sp : List Value} {i : Nat} (hi : i < pg.length) : ((pg.map i8 ++ sp).drop (i * 1)).take 1 = [i8 (gk pg i)] := by
 rw [Nat.mul_one, List.drop_append_of_le_length (by simp; omega), ← List.map_drop, List.drop_eq_getElem_cons hi, List.map_cons, List.cons_append, List.take_succ_cons, List.take_zero]
 simp [gk, List.getD, hi]
theorem BA {pg : List Pl} {i : Nat} (h : pg.length = 12) (hi : i < 12) : ((pg.map i8 ++ pg.flatMap eO).drop (12 + i * 2)).take 2 = eO (gk pg i) := by
 rw [← List.drop_drop, List.drop_left' (by simpa using h)]
 have := qF (pg := pg) (sp := []) (n := i) (by omega)
 rwa [List.append_nil] at this
theorem vV : ∀ (vs a b : List Value) (off : Nat), setR (a ++ b) (a.length + off) vs = a ++ setR b off vs
 | [], a, b, off => rfl
 | v :: vs, a, b, off => by
  rw [setR, setR, List.set_append_right _ _ (by omega), show a.length + off - a.length = off by omega, show a.length + off + 1 = a.length + (off + 1) by omega, vV vs]
theorem BB {pg : List Pl} {i : Nat} {p : Pl} (h : pg.length = 12) (hi : i < 12) (hp : hM p = true) : setR ((pg.map i8 ++ pg.flatMap eO).set (i * 1) (.bool true)) (12 + i * 2) (eO p) = (pg.set i p).map i8 ++ (pg.set i p).flatMap eO := by
 have ht : i8 p = .bool true := by
  have := kF.1 hp
  simp only [i8, Value.bool.injEq, decide_eq_true_eq]
  intro e; rw [e] at this; simp at this
 rw [Nat.mul_one, List.set_append_left _ _ (by simp; omega), ← ht, ← List.map_set]
 have e := vV (eO p) ((pg.set i p).map i8) (pg.flatMap eO) (i * 2)
 rw [show ((pg.set i p).map i8).length = 12 by simp [h]] at e
 rw [e]
 have := uB (pg := pg) (sp := []) (n := i) (p := p) (by omega)
 rw [List.append_nil, List.append_nil] at this
 rw [this]
theorem vW (n : Int) : aC Tryz.prog W0 216 [.int .i64 n] R (fun v B => v = .bool (gE n) ∧ B = R) := by
 refine aG func216 ntmps216 rfl rfl ?_
 refine ae (ah (aa rfl (ai rfl) (ag (ab (ae (ah (aa rfl (ac rfl) (aa rfl (cK rfl rfl) (aa rfl (ac rfl) ?_)))))))))
 refine cJ rfl rfl rfl ?_ ?_
 intro g1_3
 refine aa rfl (ac rfl) (ar rfl rfl (aa rfl (b0 rfl rfl) (aa rfl (aY rfl rfl) (aa rfl (ai rfl) (ag (ab (av (au (.inl rfl) (.cons (ak rfl) .nil) ?_))))))))
 refine ⟨_, ⟨?_, rfl⟩, inferInstance⟩
 refine congrArg Value.bool ?_
 rw [Bool.eq_iff_iff]; simp only [gE, decide_eq_true_eq, Bool.false_eq_true, false_iff]; omega
 intro g1_3
 refine ap rfl rfl rfl rfl (aa rfl (aM rfl rfl) (aa rfl (ai rfl) (ag (ab (av (au (.inl rfl) (.cons (ak rfl) .nil) ?_))))))
 refine ⟨_, ⟨?_, rfl⟩, inferInstance⟩
 refine congrArg Value.bool ?_
 rw [Bool.eq_iff_iff]; simp only [gE, decide_eq_true_eq, Bool.false_eq_true, false_iff]; omega
theorem rX (b : Nat) (pg : List Pl) (h : Pgs pg) (n : Int) (p : Pl) : aC Tryz.prog W0 97 [.pointer (some ⟨b, 0, none⟩), .int .i64 n, .agg (eO p).toArray] (pt b (gv pg) :: R)
    (fun v B => v = .int .i64 (ek pg n p) ∧ B = pt b (gv (ew pg n p)) :: R) := by
 have hl := h.len
 refine aG func97 ntmps97 rfl rfl ?_
 refine ae (ah (am rfl (bJ rfl) ?_))
 rintro _ _ ⟨b1, rfl, rfl⟩
 refine aa rfl (ai rfl) (ag (ab (ae (ae (ah (aa rfl (ac rfl) (am rfl (aU call216 rfl (vW n)) ?_)))))))
 rintro _ B_ ⟨rfl, hB_⟩
 obtain rfl := hB_.symm
 refine aa rfl (bM rfl) (aa rfl (ac rfl) ?_)
 refine bC rfl rfl rfl ?_ ?_
 intro g1_4
 refine ap rfl rfl rfl rfl (ap rfl rfl rfl rfl (aa rfl (aY rfl rfl) (aa rfl (ac rfl) (ap rfl rfl rfl rfl (ap rfl rfl rfl rfl (ap rfl rfl rfl rfl (aa rfl (aY rfl rfl) (aa rfl (ac rfl) (ap rfl rfl rfl rfl (ap rfl rfl rfl rfl (ap rfl rfl rfl rfl (aa rfl (aY rfl rfl) (aa rfl (ac rfl) (ap rfl rfl rfl rfl (ap rfl rfl rfl rfl (ap rfl rfl rfl rfl (aa rfl (aY rfl rfl) (ag (ab (cg rfl (ae (ah (aa rfl (ai rfl) ?_)))))))))))))))))))))))
 refine ag (ab (av (aE (au (.inl rfl) (.cons (ak rfl) .nil) ?_))))
 have he : ek pg n p = 1 := by
  unfold ek; rw [if_neg]
  intro hk
  have := kF.1 hk.2
  first
    | omega
    | (simp [hk.1] at g1_4)
 exact ⟨_, ⟨by simp [cH, he], by rw [ew, he, if_neg (by decide)]⟩, inferInstance⟩
 intro g1_4
 refine aa rfl (al rfl gI rfl az rfl (by first | exact Nat.zero_add _ | rfl)) ?_
 refine ar rfl rfl (aa rfl (ao aQ rfl (aA rfl)) ?_)
 refine ar rfl rfl (aa rfl (b0 rfl rfl) (aa rfl (aM rfl rfl) (aa rfl (ac rfl) ?_)))
 refine bC rfl rfl rfl ?_ ?_
 intro g1_9
 refine ap rfl rfl rfl rfl (ap rfl rfl rfl rfl (aa rfl (aY rfl rfl) (aa rfl (ac rfl) (ap rfl rfl rfl rfl (ap rfl rfl rfl rfl (ap rfl rfl rfl rfl (aa rfl (aY rfl rfl) (aa rfl (ac rfl) (ap rfl rfl rfl rfl (ap rfl rfl rfl rfl (ap rfl rfl rfl rfl (aa rfl (aY rfl rfl) (ag (ab (cg rfl (ae (ah (aa rfl (ai rfl) (ag (ab (av (aE (au (.inl rfl) (.cons (ak rfl) .nil) ?_)))))))))))))))))))))))
 have he : ek pg n p = 1 := by
  unfold ek; rw [if_neg]
  intro hk
  have := kF.1 hk.2
  first
    | omega
    | (simp [hk.1] at g1_4)
 exact ⟨_, ⟨by simp [cH, he], by rw [ew, he, if_neg (by decide)]⟩, inferInstance⟩
 intro g1_9
 refine aa rfl (al rfl gI rfl az rfl (by first | exact Nat.zero_add _ | rfl)) ?_
 refine ar rfl rfl (aa rfl (ao aQ rfl (aA rfl)) ?_)
 refine ar rfl rfl (aa rfl (cK rfl rfl) (aa rfl (aM rfl rfl) (aa rfl (ac rfl) ?_)))
 refine bC rfl rfl rfl ?_ ?_
 intro g1_14
 refine ap rfl rfl rfl rfl (ap rfl rfl rfl rfl (aa rfl (aY rfl rfl) (aa rfl (ac rfl) (ap rfl rfl rfl rfl (ap rfl rfl rfl rfl (ap rfl rfl rfl rfl (aa rfl (aY rfl rfl) (ag (ab (cg rfl (ae (ah (aa rfl (ai rfl) (ag (ab (av (aE (au (.inl rfl) (.cons (ak rfl) .nil) ?_))))))))))))))))))
 have he : ek pg n p = 1 := by
  unfold ek; rw [if_neg]
  intro hk
  have := kF.1 hk.2
  first
    | omega
    | (simp [hk.1] at g1_4)
 exact ⟨_, ⟨by simp [cH, he], by rw [ew, he, if_neg (by decide)]⟩, inferInstance⟩
 intro g1_14
 refine aa rfl (al rfl gI rfl az rfl (by first | exact Nat.zero_add _ | rfl)) ?_
 refine ar rfl rfl (aa rfl (ao aQ rfl (aA rfl)) ?_)
 refine ar rfl rfl (aa rfl (b0 rfl rfl) (aa rfl (aM rfl rfl) (aa rfl (ac rfl) ?_)))
 refine bC rfl rfl rfl ?_ ?_
 intro g1_19
 refine ap rfl rfl rfl rfl (ap rfl rfl rfl rfl (aa rfl (aY rfl rfl) (ag (ab (cg rfl (ae (ah (aa rfl (ai rfl) (ag (ab (av (aE (au (.inl rfl) (.cons (ak rfl) .nil) ?_)))))))))))))
 have he : ek pg n p = 1 := by
  unfold ek; rw [if_neg]
  intro hk
  have := kF.1 hk.2
  first
    | omega
    | (simp [hk.1] at g1_4)
 exact ⟨_, ⟨by simp [cH, he], by rw [ew, he, if_neg (by decide)]⟩, inferInstance⟩
 intro g1_19
 refine aa rfl (al rfl gI rfl az rfl (by first | exact Nat.zero_add _ | rfl)) ?_
 refine ar rfl rfl (aa rfl (ao aQ rfl (aA rfl)) ?_)
 refine ar rfl rfl (aa rfl (cy rfl rfl) (aa rfl (aM rfl rfl) (ag (ab ?_))))
 refine aw rfl ?_ ?_
 intro c1
 refine ae (ah (aa rfl (ai rfl) (ag (ab (av (aE (au (.inl rfl) (.cons (ak rfl) .nil) ?_)))))))
 have he : ek pg n p = 1 := by
  unfold ek; rw [if_neg]
  intro hk
  have := kF.1 hk.2
  first
    | omega
    | (simp [hk.1] at g1_4)
 exact ⟨_, ⟨by simp [cH, he], by rw [ew, he, if_neg (by decide)]⟩, inferInstance⟩
 intro c1
 have hp : gE n = true := by simpa using g1_4
 have ho : hM p = true := kF.2 (by omega)
 obtain ⟨i, hni, hi⟩ := mQ hp
 have htr := vU (pg := pg) (sp := pg.flatMap eO) (i := i) (by omega)
 have hth : ej pg n = decide (gk pg i ≠ (0, 0)) := by rw [ej, hp]; simp [hni]
 refine aB (ab (ae (ae (ah (aa rfl (ac rfl) (aa rfl (ac rfl) (aa rfl (aF rfl) ?_)))))))
 refine aa rfl (al rfl nK rfl pN rfl (by first | exact Nat.zero_add _ | rfl)) ?_
 refine aa rfl (dO xS cB rfl rfl hni hi (by first | exact Nat.zero_add _ | rfl)) ?_
 refine aa rfl (ao fM rfl (fN (vs := [i8 (gk pg i)]) htr rfl 0 _ rfl)) ?_
 refine ag (ab ?_)
 refine aw rfl ?_ ?_
 intro c3
 have ht : ej pg n = true := by rw [hth]; simpa using c3
 refine ae (ah (aa rfl (ai rfl) (ag (ab (av (aE (au (.inl rfl) (.cons (ak rfl) .nil) ?_)))))))
 have he : ek pg n p = 5 := by unfold ek; rw [if_pos ⟨hp, ho⟩, if_pos ht]
 exact ⟨_, ⟨by simp [cH, he], by rw [ew, he, if_neg (by decide)]⟩, inferInstance⟩
 intro c3
 have ht : ej pg n = false := by rw [hth]; simpa using c3
 have he : ek pg n p = 0 := by simp [ek, hp, ho, ht]
 refine aB (ab (ae (ah (aa rfl (ac rfl) (aa rfl (ac rfl) (aa rfl (aF rfl) ?_))))))
 refine aa rfl (al rfl nK rfl pN rfl (by first | exact Nat.zero_add _ | rfl)) ?_
 refine aa rfl (dO xS cB rfl rfl hni hi (by first | exact Nat.zero_add _ | rfl)) ?_
 refine bD (cm cB rfl rfl rfl (by rw [List.length_append, List.length_map, dr kE]; omega) rfl) ?_
 rintro _ _ rfl
 refine ag (ab (ae ?_))
 refine cA [(b1, 0, _)] 7 cz rfl (aK aJ) (fun hS => ?_)
 refine aj 0 rfl rfl (by kernel_rfl) (by kernel_rfl) (by kernel_rfl) rfl hS (ac rfl) ?_
 refine aj 1 rfl rfl (by kernel_rfl) (by kernel_rfl) (by kernel_rfl) rfl hS (ac rfl) ?_
 refine aj 2 rfl rfl (by kernel_rfl) (by kernel_rfl) (by kernel_rfl) rfl hS (cV jI fk rfl (dm (k := 0) rfl) rfl) ?_
 refine aj 3 rfl rfl (by kernel_rfl) (by kernel_rfl) (by kernel_rfl) rfl hS (aF rfl) ?_
 refine aj 4 rfl rfl (by kernel_rfl) (by kernel_rfl) (by kernel_rfl) rfl hS (al rfl nK rfl m9 rfl (by first | exact Nat.zero_add _ | rfl)) ?_
 refine aj 5 rfl rfl (by kernel_rfl) (by kernel_rfl) (by kernel_rfl) rfl hS (dO pI fk rfl rfl hni hi (by first | exact Nat.zero_add _ | rfl)) ?_
 refine bA 6 (by kernel_rfl) rfl rfl (iZ fk rfl rfl rfl rfl (by rw [List.length_set, List.length_append, List.length_map, dr kE]; omega) (BB hl hi ho)) rfl ?_; clear hS
 rintro _ _ rfl
 refine ⟨(aK aJ), fun hS => ?_⟩
 refine bL (by kernel_rfl) ?_; clear hS
 refine ab (ae (ah (aa rfl (ai rfl) (ag (ab (av (au (.inl rfl) (.cons (ak rfl) .nil) ?_)))))))
 rw [show ew pg n p = pg.set i p by rw [ew, if_pos he, hni, Int.toNat_natCast]]
 exact ⟨_, ⟨by simp [cH, he], rfl⟩, inferInstance⟩
theorem BC (b : Nat) (pg : List Pl) (h : Pgs pg) (n : Int) : aC Tryz.prog W0 306 [.pointer (some ⟨b, 0, none⟩), .int .i64 n] (pt b (gv pg) :: R)
    (fun v B => v = .tuple #[.agg (eO (jB pg n)).toArray, .bool (ej pg n)] ∧ B = pt b (gv pg) :: R) := by
 have hl := h.len
 refine aG func306 ntmps306 rfl rfl ?_
 refine ae (ah (am rfl (cM jb) ?_))
 rintro _ _ ⟨b1, rfl, rfl⟩
 refine aa rfl (ai rfl) (ag (ab (ae (ae (ah (aa rfl (ac rfl) (am rfl (aU call216 rfl (vW n)) ?_)))))))
 rintro _ B_ ⟨rfl, hB_⟩
 obtain rfl := hB_.symm
 refine aa rfl (bM rfl) (ag (ab ?_))
 refine aw rfl ?_ ?_
 intro c1
 refine ae (ah (aa rfl (bY gI jb (aH az (aH az bX)) bW) ?_))
 refine bD (cD fk rfl rfl rfl rfl rfl) ?_
 rintro _ _ rfl
 refine aa rfl (ai rfl) (ag (ab (av (aE (au (.inl rfl) (.cons (fG jI fk rfl rfl) (.cons (ak rfl) .nil)) ?_)))))
 refine ⟨_, ⟨?_, rfl⟩, inferInstance⟩
 have ht : ej pg n = false := by simp [ej, show gE n = false by simpa using c1]
 simp [cH, jB, ht]
 intro c1
 have hp : gE n = true := by simpa using c1
 obtain ⟨i, hni, hi⟩ := mQ hp
 have htr := vU (pg := pg) (sp := pg.flatMap eO) (i := i) (by omega)
 have hpr := BA (pg := pg) hl hi
 refine aB (ab (ae ?_))
 refine cA [(b, 12 + i * 2, eO (gk pg i)), (b, i * 1, [i8 (gk pg i)])] 14 cz rfl (cW (fN hpr rfl) (cW (fN htr rfl) aJ)) (fun hS => ?_)
 refine aj 0 rfl rfl (by kernel_rfl) (by kernel_rfl) (by kernel_rfl) rfl hS (ac rfl) ?_
 refine aj 1 rfl rfl (by kernel_rfl) (by kernel_rfl) (by kernel_rfl) rfl hS (ac rfl) ?_
 refine aj 2 rfl rfl (by kernel_rfl) (by kernel_rfl) (by kernel_rfl) rfl hS (aF rfl) ?_
 refine aj 3 rfl rfl (by kernel_rfl) (by kernel_rfl) (by kernel_rfl) rfl hS (al rfl nK rfl m9 rfl (by first | exact Nat.zero_add _ | rfl)) ?_
 refine aj 4 rfl rfl (by kernel_rfl) (by kernel_rfl) (by kernel_rfl) rfl hS (dO pI fk rfl rfl hni hi (by first | exact Nat.zero_add _ | rfl)) ?_
 refine aj 5 rfl rfl (by kernel_rfl) (by kernel_rfl) (by kernel_rfl) rfl hS (cV jI fk rfl (dm (k := 0) rfl) rfl) ?_
 refine aj 6 rfl rfl (by kernel_rfl) (by kernel_rfl) (by kernel_rfl) rfl hS (ac rfl) ?_
 refine aj 7 rfl rfl (by kernel_rfl) (by kernel_rfl) (by kernel_rfl) rfl hS (ac rfl) ?_
 refine aj 8 rfl rfl (by kernel_rfl) (by kernel_rfl) (by kernel_rfl) rfl hS (aF rfl) ?_
 refine aj 9 rfl rfl (by kernel_rfl) (by kernel_rfl) (by kernel_rfl) rfl hS (al rfl nK rfl pN rfl (by first | exact Nat.zero_add _ | rfl)) ?_
 refine aj 10 rfl rfl (by kernel_rfl) (by kernel_rfl) (by kernel_rfl) rfl hS (dO xS cB rfl rfl hni hi (by first | exact Nat.zero_add _ | rfl)) ?_
 refine aj 11 rfl rfl (by kernel_rfl) (by kernel_rfl) (by kernel_rfl) rfl hS (ao fM rfl (my (k := 1) rfl)) ?_
 refine bA 12 (by kernel_rfl) rfl rfl (cD fk rfl rfl rfl rfl rfl) rfl ?_; clear hS
 rintro _ _ rfl
 refine ⟨(cW (fN hpr rfl) (cW (fN htr rfl) aJ)), fun hS => ?_⟩
 refine aj 13 rfl rfl (by kernel_rfl) (by kernel_rfl) (by kernel_rfl) rfl hS (ai rfl) ?_
 refine bL (by kernel_rfl) ?_; clear hS
 refine ab (av (au (.inl rfl) (.cons (fG jI fk rfl rfl) (.cons (ak rfl) .nil)) ?_))
 refine ⟨_, ⟨?_, rfl⟩, inferInstance⟩
 subst hni
 by_cases hz : gk pg i = (0, 0)
 have ht : ej pg i = false := by simp [ej, hz]
 simp [cH, jB, ht, hz, i8]
 have ht : ej pg i = true := by simp [ej, hz, hp]
 simp [cH, jB, ht, hz, i8]
def BD (d : Nat) : List Value := (List.range 12).map (fun i => .bool (Nat.testBit d i))
abbrev lT (qs qm d : Nat) : Obj := ax (.pointer (some ⟨qs, 0, none⟩) :: .pointer (some ⟨qm, 0, none⟩) :: BD d) 243
structure QS where
  r : Rg3
  on : Bool
  br : Int
  last : Nat
  put : Nat
@[reducible] def iQ : QS := ⟨⟨0, 0, 0, 0⟩, false, 0, 0, 0⟩
abbrev qO (m : Bool) (s : QS) : Obj := ax [.int .u32 s.r.desc, .int .u32 s.r.avail, .int .u32 s.r.used, .int .i64 s.r.n, .bool s.on, .int .i64 s.br, .int .i64 s.last, .int .i64 s.put, .bool m] 470
theorem BE : aC Tryz.prog W0 213 [] R (fun v B => ∃ b, v = .pointer (some ⟨b, 0, none⟩) ∧ B = pt b (qO true iQ) :: R) := by
 refine aG func213 ntmps213 rfl rfl ?_
 refine ae (ah (aa rfl (ai rfl) (ag (ab (ae (ah (aa rfl (bY underlying470 zeroValue470 (aH sizeOf227 (aH cB bX)) (bq rfl cB rfl rfl (Nat.le_of_ble_eq_true rfl) SetL.eq bW)) ?_)))))))
 refine am rfl (bJ rfl) ?_
 rintro _ _ ⟨b1, rfl, rfl⟩
 refine aa rfl (ai rfl) (ag (ab (av (au (.inl rfl) (.cons (ak rfl) .nil) ?_))))
 exact ⟨_, ⟨_, rfl, rfl⟩, inferInstance⟩
section
variable {P : Program} {S : World → Prop} {W0 : World} {N : FSz} {e : bQ} {A R : List HP} {t t' : TypeId} {x : Operand} {v : Value} {b : Nat} {vs : List Value}
end
def gS : List Nat := List.replicate 16 0
structure Dk where
  rs : List Rn
  lb : List Int
  ss : List (List Nat)
def rY (ss : List (List Nat)) (i : Nat) : List Nat := ss.getD i gS
def nk (ss : List (List Nat)) : Int → Option Value := fun k => if 0 ≤ k ∧ k < 32 then (if rY ss k.toNat = gS then none else some (.agg (cd (rY ss k.toNat)).toArray)) else none
@[reducible] def np (bt bm : Nat) (aL : Option Addr) (n cL : Nat) : Obj := ax [.pointer (some ⟨bt, 0, none⟩), .slice aL n cL, .map (some bm)] 425
def jY (d : Nat) (x : Dk) : HP := chk (fun C => ∃ bt bm aL cL, C = [pt d (np bt bm aL x.lb.length cL), gR bt (x.rs, 32), osl 3 1 (.slice aL x.lb.length cL) (x.lb.flatMap eE), kP bm (nk x.ss)])
section
variable {W0 : World} {N : FSz} {K : Act → World → Prop} {e : bQ} {A B R R1 R2 R3 R4 : List HP} {d : Nat} {x : Dk}
theorem BF {bt bm n cL : Nat} {aL : Option Addr} {rs : List Rn} {ys : List Value} {f : Int → Option Value} [h1 : Tk pt d A (np bt bm aL n cL) R1] [h2 : Tk gR bt R1 (rs, 32) R2] [h3 : Tk (osl 3 1) (.slice aL n cL) R2 ys R3] [h4 : Tk kP bm R3 f R4]
    (e1 : rs = x.rs) (e2 : ys = x.lb.flatMap eE) (e3 : f = nk x.ss) (e4 : n = x.lb.length) [k : Ent R4 B] : Ent A (jY d x :: B) := by
 subst e1; subst e2; subst e3; subst e4
 have e : A.Perm ([pt d (np bt bm aL x.lb.length cL), gR bt (x.rs, 32), osl 3 1 (.slice aL x.lb.length cL) (x.lb.flatMap eE), kP bm (nk x.ss)] ++ R4) := h1.perm.trans ((h2.perm.trans ((h3.perm.trans (h4.perm.cons _)).cons _)).cons _)
 exact (Ent.ofPerm e).trans ((eZ (R := R4) ⟨bt, bm, aL, cL, rfl⟩).trans (Ent.cons k))
end
section
variable {P : Program} {S : World → Prop} {W0 : World} {N : FSz} {e : bQ} {A R : List HP} {ty t t' : TypeId} {x y : Operand} {b off : Nat} {l l' vs : List Value}
theorem BG {E sz dn dc sn sc m : Nat} {ay : Option Addr} (hu : P.underlying t = some (.slice E)) (hs : ∀ w, (sizeOf E).run P w = .ok sz w) (hx : ev e x = some (.slice (some ⟨b, off, none⟩) dn dc)) (hy : ev e y = some (.slice ay sn sc))
    [h : Tk pt b A (ax l ty) R] (hm : Nat.min sn dn = m) (hsrc : m = 0 ∨ ∃ bx ox, ay = some ⟨bx, ox, none⟩ ∧ cY (bK W0 A) bx ox vs) (hl : vs.length = m * sz) (h1 : eM vs = true) (ho : off + m * sz ≤ l.length) (hr : setR l off vs = l') :
    dl P W0 N e A (.call { callee := .builtin .copy, args := #[x, y], argTypes := #[t, t'] }) (fun v B => v = .int .i64 m ∧ B = pt b (ax l' ty) :: R) := by
 rcases hsrc with rfl | ⟨bx, ox, rfl, hc⟩
 have h0 : vs = [] := List.eq_nil_of_length_eq_zero (by simpa using hl)
 subst h0
 have hr' : l = l' := hr
 subst hr'
 intro a w dst ty' pos af g K Q hF hO k
 have hO' := hO.tk (r := pt) (b := b)
 have hexec : (execOp a.eval { dst := dst, op := .call { callee := .builtin .copy, args := #[x, y], argTypes := #[t, t'] }, type := ty', pos := pos, after := af, guard := g }).run P w = .ok (.value (.int .i64 0)) w := by
  have hs' : (sizeOf E).run P w = .ok sz w := hs w
  cases ay <;>
  simp only [execOp, resolve, invoke, builtin, Sem.run_bind, Sem.run_pure, Result.andThen_ok, List.map_toArray, List.map_cons, List.map_nil, hF.eval hx, hF.eval hy, Builtin.copy_, Builtin.lenOf, Builtin.firstCells, dY hu, hm, Array.getElem?_eq_getElem, List.getElem?_toArray, List.getElem?_cons_zero, List.getElem?_cons_succ, hs', loadCells, loadCellsFrom, Nat.zero_mul, storeCells, goInt] <;> rfl
 unfold Oper.wp
 rw [hexec]
 exact k _ w _ ⟨rfl, rfl⟩ hO'
 exact lz hu hs hx hy hm hc hl h1 ho hr
end
@[reducible] def iR (x : Nat) : List Value := [wV x]
theorem rZ (x : Nat) : (iR x).length = 1 := rfl
theorem s0 (l : List Nat) : l.flatMap iR = l.map wV := zT wV l
def bO (ws : List Nat) (p : Nat) : List Nat := ws.take (16 * p)
theorem nq (ws : List Nat) (p : Nat) : (bO ws p).length = min (16 * p) ws.length := by rw [bO, List.length_take]
theorem s6 (a b : Nat) : (if (b : Int) < (a : Int) then (b : Int) else (a : Int)) = ((min a b : Nat) : Int) := by
 split <;> omega
theorem vX {p : Nat} (h : p ≤ 8) : (if (8 : Int) < (p : Int) then (8 : Int) else (p : Int)) = (p : Int) := by rw [if_neg (by omega)]
theorem BH (a : Nat) : (if (a : Int) > (0 : Int) then (a : Int) else (0 : Int)) = (a : Int) := by
 split <;> omega
theorem vY (a : Option Addr) (c p : Nat) (ws : List Nat) (hs : cF (bK W0 R) a 1 iR ws) (hp : p ≤ 8) (hn : ws.length < 9223372036854775808) :
    aC Tryz.prog W0 87 [.slice a ws.length c, .int .i64 p] R (fun v B => ∃ g, v = .slice (some ⟨g, 0, none⟩) (bO ws p).length (bO ws p).length ∧ B = pt g (ax ((bO ws p).map wV) 42) :: R) := by
 have hl := nq ws p
 have hsrc := (hs.take (16 * p)).src rZ (fun _ => trivial)
 rw [s0] at hsrc
 refine aG func87 ntmps87 rfl rfl ?_
 refine ae (ah (aa rfl (ai rfl) (ag (ab (ae (ah (aa rfl (ac rfl) (aa rfl (mN rfl rfl (vX hp)) ?_))))))))
 refine aa rfl (uW rfl rfl (BH p)) ?_
 refine aa rfl (il rfl rfl (by rw [aZ (by omega)]; omega : IntKind.wrap .i64 ((p : Int) * 16) = ((16 * p : Nat) : Int))) ?_
 refine aa rfl (ai rfl) (ag (ab ?_))
 refine gM (fun m : Nat => m = (bO ws p).length) (fun m => [(0, .slice a ws.length c), (5, .int .i64 m)]) (fun _ => R) ?_ ?_
 skip
 refine ae (ah (aa rfl (ac rfl) (aa rfl (ac rfl) (aa rfl (bu iX rfl) (aa rfl (cK rfl rfl) (ag (ab ?_)))))))
 refine aw rfl ?_ ?_
 intro c2
 refine ah (aa rfl (ac rfl) (aa rfl (bu iX rfl) (aa rfl (ai rfl) (ag (ab ?_)))))
 refine dz ws.length ?_ ?_ ?_
 omega
 · repeat (first | exact aX | refine aV rfl ?_)
 exact inferInstance
 intro c2
 refine aB (ab ?_)
 refine dz (16 * p) ?_ ?_ ?_
 omega
 · repeat (first | exact aX | refine aV rfl ?_)
 exact inferInstance
 intro m hm
 refine ae (ah (aa rfl (ac rfl) ?_))
 refine am rfl (mM (sz := 1) (by_ := 4) (info := Tryz.t42) iX (by kernel_rfl) rfl rfl rfl rfl (by decide) rfl rfl rfl rfl (by omega) (by decide)) ?_
 rintro _ _ ⟨g, rfl, rfl⟩
 refine aa rfl (ai rfl) (ag (ab (ae (ah (aa rfl (ac rfl) (aa rfl (ac rfl) ?_))))))
 refine am rfl (BG iX cQ rfl rfl (m := m) (vs := (bO ws p).map wV) (Nat.min_eq_right (by omega)) (by
       rcases hsrc with h | ⟨b, o, h1, h2⟩
       · left; rw [hm, bO, h]; rfl
       right; exact ⟨b, o, h1, h2.weak⟩) (by rw [List.length_map, hm]; omega) (by simp [eM, wV, Value.oneCell']) (by rw [List.length_replicate]; omega) (by have := oc ((bO ws p).map wV) (List.replicate (m * 1) (.int .u32 0)) [] (by rw [List.length_map, List.length_replicate, hm]; omega); simpa using this)) ?_
 rintro _ B_ ⟨rfl, hB_⟩
 obtain rfl := hB_.symm
 refine ag (ab (ae (ah (aa rfl (ac rfl) (aa rfl (ai rfl) (ag (ab (av (au (.inl rfl) (.cons (ak rfl) .nil) ?_)))))))))
 subst hm
 exact ⟨_, ⟨g, rfl, rfl⟩, inferInstance⟩
def gx (n i : Nat) : Nat := min n (i * 16)
theorem vZ (ws : List Nat) (i : Nat) : (d4 ws i).length = min ws.length (gx ws.length i + 16) - gx ws.length i := by
 rw [d4, List.length_take, List.length_drop, gx]; omega
theorem BI (W0 : World) (R : List HP) (a : Option Addr) (c n i : Nat) (ws : List Nat) (hn : ws.length = n) (hc : n ≤ c) (hi : i < 8) (h63 : n ≤ 1000) :
    aC Tryz.prog W0 203 [.slice a n c, .int .i64 i] R (fun v B => v = .slice (gF a c (gx n i) 1) (d4 ws i).length (c - gx n i) ∧ B = R) := by
 have hl := vZ ws i
 rw [hn] at hl
 have hF : gx n i = min n (i * 16) := rfl
 refine aG func203 ntmps203 rfl rfl ?_
 refine ae (ah (aa rfl (ai rfl) (ag (ab (ae (ah (aa rfl (ac rfl) (aa rfl (bu iX rfl) (aa rfl (ac rfl) ?_)))))))))
 refine aa rfl (il rfl rfl (by rw [aZ (by omega)]; omega : IntKind.wrap .i64 ((i : Int) * 16) = ((i * 16 : Nat) : Int))) ?_
 refine aa rfl (mN rfl rfl (s6 n (i * 16))) ?_
 refine aa rfl (ai rfl) (ag (ab (ae (ah (aa rfl (ac rfl) (aa rfl (ac rfl) (aa rfl (ac rfl) (aa rfl (bu iX rfl) (aa rfl (ac rfl) ?_)))))))))
 refine aa rfl (bF rfl rfl (by rw [aZ (by omega)]; omega : IntKind.wrap .i64 (((gx n i : Nat) : Int) + 16) = ((gx n i + 16 : Nat) : Int))) ?_
 refine aa rfl (mN rfl rfl (s6 n (gx n i + 16))) ?_
 refine aa rfl (A1 iX cQ rfl rfl rfl rfl rfl (by omega) (by omega)) ?_
 refine aa rfl (ai rfl) (ag (ab (av (au (.inl rfl) (.cons (ak rfl) .nil) ?_))))
 rw [hl]
 exact ⟨_, ⟨rfl, rfl⟩, inferInstance⟩
theorem BJ {S : World → Prop} {a : Option Addr} {c i : Nat} {ws : List Nat} (h : cF S a 1 iR ws) (hc : ws.length ≤ c) : cF S (gF a c (gx ws.length i) 1) 1 iR (d4 ws i) := by
 have hk : gx ws.length i + (d4 ws i).length ≤ ws.length := by
  rw [vZ]; have : gx ws.length i = min ws.length (i * 16) := rfl; omega
 have := h.sub hk hc
 have e : (ws.drop (gx ws.length i)).take (d4 ws i).length = d4 ws i := by
  have hF : gx ws.length i = min ws.length (i * 16) := rfl
  rcases Nat.lt_or_ge ws.length (i * 16) with q | q
  have h0 : d4 ws i = [] := by
   rw [d4, List.drop_of_length_le (by omega)]; rfl
  rw [h0]; rfl
  rw [show gx ws.length i = 16 * i by omega, d4, List.length_take]
  rcases Nat.le_total 16 (ws.drop (16 * i)).length with z | z
  rw [Nat.min_eq_left z]
  rw [Nat.min_eq_right z, List.take_of_length_le (Nat.le_refl _), List.take_of_length_le z]
 rwa [e] at this
theorem BK (W0 : World) (R : List HP) (pb ps : Nat) (po : Po) (h0 : 0 < po.length) :
    aC Tryz.prog W0 123 [.pointer (some ⟨pb, 0, none⟩), .int .i64 (-1), .int .i64 0] (da pb (ps, po) :: R) (fun v B => v = .int .i64 1 ∧ B = da pb (ps, po) :: R) := by
 have hi : dy po.length (-1) = false := by simp [dy]
 refine aG func123 ntmps123 rfl rfl ?_
 refine ae (ah (aa rfl (ai rfl) (ag (ab (ae (aW (ae (ah (aa rfl (ac rfl) (am rfl (bn t6 rfl (oO W0 _ pb ps po h0)) ?_))))))))))
 rintro _ B_ ⟨rfl, hB_⟩
 obtain rfl := hB_.symm
 refine aa rfl (ai rfl) (ag (ab ?_))
 refine aw rfl ?_ ?_
 intro c1
 exact absurd c1 (by decide)
 intro c1
 refine ae (ae (ah (aa rfl (ac rfl) (aa rfl (ac rfl) (am rfl (bn call258 rfl (ve W0 _ pb ps po (-1))) ?_)))))
 rintro _ B_ ⟨rfl, hB_⟩
 obtain rfl := hB_.symm
 refine aa rfl (bM rfl) (aa rfl (ai rfl) (ag (ab ?_)))
 refine aw rfl ?_ ?_
 intro c3
 refine aB (ab (cg rfl (ae (ah (aa rfl (ai rfl) (ag (ab (av (bj (aE (au (.inl rfl) (.cons (ak rfl) .nil) ?_)))))))))))
 exact ⟨_, ⟨rfl, rfl⟩, inferInstance⟩
 intro c3
 exact absurd (by simp [hi]) c3
theorem BL (b : Nat) (pg : List Pl) (h : Pgs pg) : aC Tryz.prog W0 207 [.pointer (some ⟨b, 0, none⟩), .int .i64 (-1)] (pt b (dF pg) :: R)
    (fun v B => v = .int .i64 1 ∧ B = pt b (dF pg) :: R) := by
 refine aG func207 ntmps207 rfl rfl ?_
 refine ae (ah (aa rfl (ai rfl) (ag (ab (ae (aW (ae (ah (aa rfl (ac rfl) (am rfl (bn sW rfl (oy b pg h)) ?_))))))))))
 rintro _ B_ ⟨rfl, hB_⟩
 obtain rfl := hB_.symm
 refine aa rfl (ai rfl) (ag (ab ?_))
 refine aw rfl ?_ ?_
 intro c1
 exact absurd c1 (by decide)
 intro c1
 refine ae (ah (aa rfl (ac rfl) (am rfl (aU sT rfl (oz (-1))) ?_)))
 rintro _ B_ ⟨rfl, hB_⟩
 obtain rfl := hB_.symm
 refine aa rfl (bM rfl) (aa rfl (ai rfl) (ag (ab ?_)))
 refine aw rfl ?_ ?_
 intro c3
 refine ae (ah (aa rfl (ai rfl) (ag (ab (av (bj (aE (au (.inl rfl) (.cons (ak rfl) .nil) ?_))))))))
 exact ⟨_, ⟨rfl, rfl⟩, inferInstance⟩
 intro c3
 exact absurd c3 (by decide)
theorem BM (W0 : World) (R : List HP) (pb ps pm : Nat) (x : Im) (h : ImOk x) (h0 : 0 < x.fr.length) :
    aC Tryz.prog W0 296 [.pointer (some ⟨pb, 0, none⟩), .pointer (some ⟨ps, 0, none⟩), .pointer (some ⟨pm, 0, none⟩)] (da pb (ps, x.po) :: bG ps x.fr :: pt pm (dF x.pg) :: R) (fun v B => v = .bool true ∧ B = da pb (ps, x.po) :: bG ps x.fr :: pt pm (dF x.pg) :: R) := by
 have hl := h.len
 refine aG func296 ntmps296 rfl rfl ?_
 refine ae (ah (aa rfl (ai rfl) (ag (ab (ae (ah (aa rfl (ac rfl) ?_)))))))
 refine am rfl (bn call123 rfl (BK W0 _ pb ps x.po (by omega))) ?_
 rintro _ B_ ⟨rfl, hB_⟩
 obtain rfl := hB_.symm
 refine aa rfl (bI rfl rfl) (aa rfl (ac rfl) ?_)
 refine cJ rfl rfl rfl ?_ ?_
 intro g1_4
 refine aa rfl (ac rfl) (ar rfl rfl (am rfl (bn nG rfl (lF W0 _ ps x.fr)) ?_))
 rintro _ B_ ⟨rfl, hB_⟩
 obtain rfl := hB_.symm
 refine ar rfl rfl (aa rfl (cy rfl rfl) (aa rfl (aY rfl rfl) (aa rfl (ac rfl) ?_)))
 refine cJ rfl rfl rfl ?_ ?_
 intro g1_9
 refine aa rfl (ac rfl) (ar rfl rfl (am rfl (bn call207 rfl (BL pm x.pg h.pg)) ?_))
 rintro _ B_ ⟨rfl, hB_⟩
 obtain rfl := hB_.symm
 refine ar rfl rfl (aa rfl (bI rfl rfl) (aa rfl (aY rfl rfl) (aa rfl (ai rfl) (ag (ab (av (au (.inl rfl) (.cons (ak rfl) .nil) ?_)))))))
 exact ⟨_, ⟨rfl, rfl⟩, inferInstance⟩
 intro g1_9
 omega
 intro g1_4
 exact absurd (by decide) g1_4
theorem BN (W0 : World) (R : List HP) (pm : Nat) (pg : List Pl) (h : Pgs pg) (n : Nat) (hn : n ≤ 8) (hf : kK pg 0 n) :
    aC Tryz.prog W0 297 [.pointer (some ⟨pm, 0, none⟩), .int .i64 n] (pt pm (dF pg) :: R) (fun v B => v = .bool true ∧ B = pt pm (dF pg) :: R) := by
 refine aG func297 ntmps297 rfl rfl ?_
 refine ae (ah (aa rfl (ai rfl) (ag (ab (ae (ae (ah (aa rfl (ac rfl) (aa rfl (ac rfl) (ag (ab (aW ?_))))))))))))
 refine cT (fun i : Nat => i ≤ n) (fun i => [(0, .pointer (some ⟨pm, 0, none⟩)), (8, .int .i64 n), (9, .int .i64 i)]) (fun _ => pt pm (dF pg) :: R) (fun i => n - i) 0 ?_ ?_ ?_ ?_
 exact Nat.zero_le _
 · repeat (first | exact aX | refine aV rfl ?_)
 exact inferInstance
 intro i hi
 refine ae (ah (aa rfl (b0 rfl rfl) (ag (ab (ae ?_)))))
 refine aw rfl ?_ ?_
 intro c2
 refine aB (ab (ae (aW (ae (ah (aa rfl (ac rfl) (aa rfl (ai rfl) (ag (ab (ae (ah (aa rfl (ac rfl) (aa rfl (ac rfl) (am rfl (bn call144 rfl (zB pm pg h i)) ?_))))))))))))))
 rintro _ B_ ⟨rfl, hB_⟩
 obtain rfl := hB_.symm
 refine aa rfl (ac rfl) (aa rfl (aS rfl rfl) (aa rfl (aS rfl rfl) (am rfl (cM jb) ?_)))
 rintro _ _ ⟨bx, rfl, rfl⟩
 refine bD (cD fk rfl rfl rfl rfl rfl) ?_
 rintro _ _ rfl
 refine aa rfl (ai rfl) (ag (ab (ae (ah (aa rfl (ac rfl) (ag (ab ?_)))))))
 refine aw rfl ?_ ?_
 intro c5
 exact absurd c5 (by rw [hf i (Nat.zero_le _) (by omega)]; decide)
 intro c5
 refine aB (bH (ab (ah ?_)))
 refine aa rfl (bF rfl rfl (by first | exact aZ (by omega) | rfl)) ?_
 refine aa rfl (ac rfl) (ag (ab ?_))
 refine cG (i + 1) ?_ ?_ ?_ ?_
 omega
 omega
 · repeat (first | exact aX | refine aV rfl ?_)
 exact inferInstance
 intro c2
 refine cj (bi (bi (co (ab (ae (ah (aa rfl (ai rfl) (ag (ab (av (au (.inl rfl) (.cons (ak rfl) .nil) ?_)))))))))))
 exact ⟨_, ⟨rfl, rfl⟩, inferInstance⟩
theorem BO (W0 : World) (R : List HP) (pb ps pm who n : Nat) (x : Im) (h : ImOk x) (h0 : 0 < x.fr.length) (hw : who < 16) (h1 : 1 ≤ n) (h8 : n ≤ 8) (hf : kK x.pg 0 n) (hl : n ≤ (bP x.po who).length) :
    aC Tryz.prog W0 200 [.pointer (some ⟨pb, 0, none⟩), .pointer (some ⟨ps, 0, none⟩), .pointer (some ⟨pm, 0, none⟩), .int .i64 who, .int .i64 n] (da pb (ps, x.po) :: bG ps x.fr :: pt pm (dF x.pg) :: R) (fun v B => v = .int .i64 0 ∧ B = da pb (ps, x.po) :: bG ps x.fr :: pt pm (dF x.pg) :: R) := by
 have hle := h.len
 refine aG func200 ntmps200 rfl rfl ?_
 refine ae (ah (aa rfl (ai rfl) (ag (ab (ae (aW (ae (ah (aa rfl (ac rfl) (aa rfl (ac rfl) (aa rfl (ac rfl) (am rfl (kx call296 rfl (BM W0 _ pb ps pm x h h0)) ?_))))))))))))
 rintro _ B_ ⟨rfl, hB_⟩
 obtain rfl := hB_.symm
 refine aa rfl (bM rfl) (aa rfl (ai rfl) (ag (ab ?_)))
 refine aw rfl ?_ ?_
 intro c1
 exact absurd c1 (by decide)
 intro c1
 refine ae (ae (ah (aa rfl (ac rfl) (aa rfl (b0 rfl rfl) (aa rfl (ai rfl) (ag (ab ?_)))))))
 refine aw rfl ?_ ?_
 intro c3
 omega
 intro c3
 refine ae (ah (aa rfl (ac rfl) (aa rfl (cy rfl rfl) (aa rfl (ai rfl) (ag (ab ?_))))))
 refine aw rfl ?_ ?_
 intro c4
 omega
 intro c4
 refine ae (ah (aa rfl (ac rfl) (aa rfl (b0 rfl rfl) (aa rfl (ai rfl) (ag (ab ?_))))))
 refine aw rfl ?_ ?_
 intro c5
 omega
 intro c5
 refine ah (aa rfl (ac rfl) (aa rfl (cK rfl rfl) (aa rfl (ai rfl) (ag (ab ?_)))))
 refine aw rfl ?_ ?_
 intro c6
 omega
 intro c6
 refine ae (ah (aa rfl (ac rfl) (aa rfl (ac rfl) (am rfl (bn call297 rfl (BN W0 _ pm x.pg h.pg n h8 hf)) ?_))))
 rintro _ B_ ⟨rfl, hB_⟩
 obtain rfl := hB_.symm
 refine aa rfl (bM rfl) (aa rfl (ai rfl) (ag (ab ?_)))
 refine aw rfl ?_ ?_
 intro c8
 exact absurd c8 (by decide)
 intro c8
 refine ae (ah (aa rfl (ac rfl) (aa rfl (ac rfl) ?_)))
 refine am rfl (bn call298 rfl (Ao W0 _ pb ps x.po who (by omega) hw)) ?_
 rintro _ B_ ⟨rfl, hB_⟩
 obtain rfl := hB_.symm
 refine aa rfl (ac rfl) (aa rfl (b0 rfl rfl) (aa rfl (ai rfl) (ag (ab ?_))))
 refine aw rfl ?_ ?_
 intro c10
 omega
 intro c10
 refine aB (bH (ab (ae (ah (aa rfl (ai rfl) (ag (ab (av (au (.inl rfl) (.cons (ak rfl) .nil) ?_)))))))))
 exact ⟨_, ⟨rfl, rfl⟩, inferInstance⟩
theorem BQ {pg : List Pl} {i f : Nat} (hi : i < 8) (hf : f < 32) (ht : ej pg (i : Nat) = false) : ek pg i ((f : Int), 3) = 0 := by
 rw [ek, if_pos ⟨by simp only [gE, decide_eq_true_eq]; omega, by simp only [hM, decide_eq_true_eq]; omega⟩, ht]; rfl
theorem BR (W0 : World) (R : List HP) (b6 b9 b14 b7 b8 g pb ps pm who i f : Nat) (l : List Nat) (x : Im) (h : ImOk x) (ws : List Nat) (hw : who < 16) (hi : i < 8) (he : bP x.po who = f :: l) (ht : ej x.pg (i : Nat) = false) (hb : ∀ y ∈ ws, y < 4294967296) (hN : ws.length ≤ 128) :
    aC Tryz.prog W0 201 ([] ++ [.int .i64 i] ++ [.pointer (some ⟨b6, 0, none⟩), .pointer (some ⟨b9, 0, none⟩), .pointer (some ⟨b14, 0, none⟩), .pointer (some ⟨b7, 0, none⟩), .pointer (some ⟨b8, 0, none⟩)])
      (pt b6 (ax [.pointer (some ⟨pb, 0, none⟩)] 64) :: pt b9 (ax [.int .i64 who] 3) :: pt b14 (ax [.slice (some ⟨g, 0, none⟩) ws.length ws.length] 98) :: pt b7 (ax [.pointer (some ⟨ps, 0, none⟩)] 63) :: pt b8 (ax [.pointer (some ⟨pm, 0, none⟩)] 207) :: pt g (ax (ws.map wV) 42) :: da pb (ps, x.po) :: bG ps x.fr :: pt pm (dF x.pg) :: R)
      (fun v B => v = .int .i64 0 ∧ B = pt b6 (ax [.pointer (some ⟨pb, 0, none⟩)] 64) :: pt b9 (ax [.int .i64 who] 3) :: pt b14 (ax [.slice (some ⟨g, 0, none⟩) ws.length ws.length] 98) :: pt b7 (ax [.pointer (some ⟨ps, 0, none⟩)] 63) :: pt b8 (ax [.pointer (some ⟨pm, 0, none⟩)] 207) :: pt g (ax (ws.map wV) 42) :: da pb (ps, (g8 who ws x i).po) :: bG ps (g8 who ws x i).fr :: pt pm (dF (g8 who ws x i).pg) :: R) := by
 have hf := i3.1 (show f ∈ bP x.po who by rw [he]; simp)
 have hpl := h.po.len
 have hst : g8 who ws x i = ⟨f2 f (d4 ws i) 0 x.fr, x.po.set f ((who : Int), true), ew x.pg i ((f : Int), 3)⟩ := by rw [g8, he]
 rw [hst]
 have hpgb : ∀ y ∈ d4 ws i, y < 4294967296 := fun y hy => hb y (List.mem_of_mem_drop (List.mem_of_mem_take hy))
 have hpl16 : (d4 ws i).length ≤ 16 := by rw [d4, List.length_take]; omega
 simp only [List.nil_append, List.cons_append]
 refine aG func201 ntmps201 rfl rfl ?_
 refine ae (ah (aa rfl (ai rfl) (ag (ab (ae (ah (aa rfl (ao xT rfl (aA rfl)) ?_)))))))
 refine aa rfl (ao aQ rfl (aA rfl)) ?_
 refine am rfl (bn call202 rfl (Ap W0 _ pb ps x.po who f l hw h.po he)) ?_
 rintro _ B_ ⟨rfl, hB_⟩
 obtain rfl := hB_.symm
 refine aa rfl (ac rfl) (aa rfl (aS rfl rfl) (aa rfl (aS rfl rfl) (aa rfl (ai rfl) (aa rfl (ai rfl) (ag (ab (ae (ae (ah (aa rfl (ac rfl) (aa rfl (bI rfl rfl) (ag (ab ?_)))))))))))))
 refine aw rfl ?_ ?_
 intro c2
 exact absurd c2 (by decide)
 intro c2
 refine aB (ab (ae (ae (ah (aa rfl (ao isAgg98 rfl (aA rfl)) ?_)))))
 refine aa rfl (ac rfl) ?_
 refine am rfl (aU call203 rfl (BI W0 _ (some ⟨g, 0, none⟩) ws.length ws.length i ws rfl (Nat.le_refl _) hi (by omega))) ?_
 rintro _ B_ ⟨rfl, hB_⟩
 obtain rfl := hB_.symm
 refine aa rfl (bu iX rfl) (aa rfl (ac rfl) (ag (ab (aW ?_))))
 refine cT (fun k : Nat => k ≤ (d4 ws i).length) (fun k => [(0, .int .i64 i), (4, .pointer (some ⟨b7, 0, none⟩)), (5, .pointer (some ⟨b8, 0, none⟩)), (8, .int .i64 f), (23, .slice (gF (some ⟨g, 0, none⟩) ws.length (gx ws.length i) 1) (d4 ws i).length (ws.length - gx ws.length i)), (24, .int .i64 (d4 ws i).length), (25, .int .i64 k)]) (fun k => pt b6 (ax [.pointer (some ⟨pb, 0, none⟩)] 64) :: pt b9 (ax [.int .i64 who] 3) :: pt b14 (ax [.slice (some ⟨g, 0, none⟩) ws.length ws.length] 98) :: pt b7 (ax [.pointer (some ⟨ps, 0, none⟩)] 63) :: pt b8 (ax [.pointer (some ⟨pm, 0, none⟩)] 207) :: pt g (ax (ws.map wV) 42) :: da pb (ps, x.po.set f ((who : Int), true)) :: bG ps (f2 f ((d4 ws i).take k) 0 x.fr) :: pt pm (dF x.pg) :: R) (fun k => (d4 ws i).length - k) 0 ?_ ?_ ?_ ?_
 exact Nat.zero_le _
 · repeat (first | exact aX | refine aV rfl ?_)
 rw [show f2 f ((d4 ws i).take 0) 0 x.fr = x.fr from rfl]
 exact inferInstance
 intro k hk
 refine ae (ah (aa rfl (b0 rfl rfl) (ag (ab (ae ?_)))))
 refine aw rfl ?_ ?_
 intro c5
 refine aB (ab (ae (aW (ae ?_))))
 have hk1 : k < (d4 ws i).length := by omega
 have hsl : cF (bK W0 (pt b6 (ax [.pointer (some ⟨pb, 0, none⟩)] 64) :: pt b9 (ax [.int .i64 who] 3) :: pt b14 (ax [.slice (some ⟨g, 0, none⟩) ws.length ws.length] 98) :: pt b7 (ax [.pointer (some ⟨ps, 0, none⟩)] 63) :: pt b8 (ax [.pointer (some ⟨pm, 0, none⟩)] 207) :: pt g (ax (ws.map wV) 42) :: da pb (ps, x.po.set f ((who : Int), true)) :: bG ps (f2 f ((d4 ws i).take k) 0 x.fr) :: pt pm (dF x.pg) :: R)) (some ⟨g, 0, none⟩) 1 iR ws := jQ (b := g) rZ (s0 ws).symm
 obtain ⟨gb, go, hga, hc⟩ := (BJ (i := i) hsl (Nat.le_refl _)).at_ hk1
 obtain ⟨y, hy⟩ : ∃ y, (d4 ws i)[k] = y := ⟨_, rfl⟩
 rw [hy] at hc
 have hyb := hpgb _ (List.getElem_mem hk1)
 rw [hy] at hyb
 have htk : (d4 ws i).take (k + 1) = (d4 ws i).take k ++ [y] := by rw [← hy]; exact List.take_succ_eq_append_getElem hk1
 obtain ⟨hF, hFl⟩ := lI (f := f) (l := (d4 ws i).take k) (k := 0) h.fr
 have hs0 := qQ f y ((d4 ws i).take k) 0 x.fr
 rw [← htk, List.length_take, Nat.min_eq_left (by omega), Nat.zero_add] at hs0
 refine ah (aa rfl (ac rfl) ?_)
 refine aa rfl (dH iX cQ rfl hga rfl rfl hk1 (by first | exact Nat.zero_add _ | rfl)) ?_
 refine aa rfl (ao fm rfl (hc 0 _ rfl)) ?_
 refine aa rfl (ai rfl) (aa rfl (ai rfl) (ag (ab (ah (aa rfl (ao kg rfl (aA rfl)) ?_)))))
 refine aa rfl (ac rfl) (aa rfl (ac rfl) ?_)
 refine aa rfl (il rfl rfl (by rw [aZ (by omega)]; omega : IntKind.wrap .i64 (4 * (k : Int)) = ((4 * k : Nat) : Int))) ?_
 refine aa rfl (ac rfl) (am rfl (bn xU rfl (uA W0 _ ps (f2 f ((d4 ws i).take k) 0 x.fr) f (4 * k : Nat) 4 y hyb hF)) ?_)
 rintro _ B_ ⟨rfl, hB_⟩
 obtain rfl := hB_.symm
 refine ag (bH (ab (ah ?_)))
 refine aa rfl (bF rfl rfl (by first | exact aZ (by omega) | rfl)) ?_
 refine aa rfl (ac rfl) (ag (ab ?_))
 refine cG (k + 1) ?_ ?_ ?_ ?_
 omega
 omega
 · repeat (first | exact aX | refine aV rfl ?_)
 rw [hs0]
 exact inferInstance
 intro c5
 refine cj (bi (bi (co (ab (ae ?_)))))
 obtain rfl : k = (d4 ws i).length := by omega
 rw [List.take_of_length_le (Nat.le_refl _)]
 refine ah (aa rfl (ao xP rfl (aA rfl)) ?_)
 refine aa rfl (ac rfl) (aa rfl (ac rfl) (aa rfl (bY gI jb (aH az (aH az bX)) (bq rfl az rfl rfl (Nat.le_of_ble_eq_true rfl) SetL.eq (bq rfl az rfl rfl (Nat.le_of_ble_eq_true rfl) SetL.eq bW))) ?_))
 refine am rfl (bn call204 rfl (uD pm x.pg h.pg i ((f : Int), 3))) ?_
 rintro _ B_ ⟨rfl, hB_⟩
 obtain rfl := hB_.symm
 refine aa rfl (ai rfl) (ag (ab (av (au (.inl rfl) (.cons (ak rfl) .nil) ?_))))
 rw [BQ hi (by omega) ht]
 exact ⟨_, ⟨rfl, rfl⟩, inferInstance⟩
theorem BS (W0 : World) (R : List HP) (pb ps pm who n : Nat) (x : Im) (h : ImOk x) (h0 : 0 < x.fr.length) (a : Option Addr) (c : Nat) (ws : List Nat) (hw : who < 16) (h1 : 1 ≤ n) (h8 : n ≤ 8) (hf : kK x.pg 0 8) (hl : n ≤ (bP x.po who).length)
    (hs : ∀ A, Ent A R → cF (bK W0 A) a 1 iR ws) (hb : ∀ y ∈ ws, y < 4294967296) (hn : ws.length < 9223372036854775808) :
    aC Tryz.prog W0 88 [.pointer (some ⟨pb, 0, none⟩), .pointer (some ⟨ps, 0, none⟩), .pointer (some ⟨pm, 0, none⟩), .int .i64 who, .int .i64 n, .slice a ws.length c] (da pb (ps, x.po) :: bG ps x.fr :: pt pm (dF x.pg) :: R)
      (fun v B => v = .int .i64 0 ∧ B = da pb (ps, (d8 who (bO ws n) n x).po) :: bG ps (d8 who (bO ws n) n x).fr :: pt pm (dF (d8 who (bO ws n) n x).pg) :: R) := by
 have hlen := nq ws n
 have hcb : ∀ y ∈ bO ws n, y < 4294967296 := fun y hy => hb y (List.mem_of_mem_take hy)
 have hok : ∀ i, ImOk (d8 who (bO ws n) i x) := fun i => kJ hw h
 have hfl : ∀ i, (d8 who (bO ws n) i x).fr.length = x.fr.length := fun i => by
  induction i with
  | zero => rfl
  | succ i ih =>
   rw [d8, g8]
   split
   rw [(lI (hok i).fr).2]; exact ih
   exact ih
 refine aG func88 ntmps88 rfl rfl ?_
 refine ae (ah (am rfl (jM rfl rfl) ?_))
 rintro _ _ ⟨b6, rfl, rfl⟩
 refine am rfl (jM rfl rfl) ?_
 rintro _ _ ⟨b7, rfl, rfl⟩
 refine am rfl (jM rfl rfl) ?_
 rintro _ _ ⟨b8, rfl, rfl⟩
 refine am rfl (jM rfl rfl) ?_
 rintro _ _ ⟨b9, rfl, rfl⟩
 refine aa rfl (ai rfl) (ag (ab (ae (ae (ah (aa rfl (ao xT rfl (aA rfl)) ?_))))))
 refine aa rfl (ao kg rfl (aA rfl)) ?_
 refine aa rfl (ao xP rfl (aA rfl)) ?_
 refine aa rfl (ao aQ rfl (aA rfl)) ?_
 refine aa rfl (ac rfl) ?_
 refine am rfl (kx call200 rfl (BO W0 _ pb ps pm who n x h h0 hw h1 h8 (fun i q1 q2 => hf i q1 (by omega)) hl)) ?_
 rintro _ B_ ⟨rfl, hB_⟩
 obtain rfl := hB_.symm
 refine aa rfl (ai rfl) (ag (ab (ae (ah (aa rfl (ac rfl) (aa rfl (bI rfl rfl) (ag (ab ?_))))))))
 refine aw rfl ?_ ?_
 intro c2
 exact absurd c2 (by decide)
 intro c2
 refine aB (ab (ae (ah (aa rfl (ac rfl) (aa rfl (ac rfl) (am rfl (aU call87 rfl (vY a c n ws (hs _ inferInstance) h8 hn)) ?_))))))
 rintro _ B_ ⟨g, rfl, hB_⟩
 obtain rfl := hB_.symm
 refine am rfl (oe zeroValue98 rfl) ?_
 rintro _ _ ⟨b14, rfl, rfl⟩
 refine bD (cm nL rfl rfl rfl (Nat.le_of_ble_eq_true rfl) SetL.eq) ?_
 rintro _ _ rfl
 refine ag (ab (ae (ah (aa rfl (ip rfl rfl) ?_))))
 refine aa rfl (ai rfl) (ag (ab (ae (ae (ah (aa rfl (ac rfl) (aa rfl (ac rfl) (ag (ab (aW ?_))))))))))
 refine cT (fun i : Nat => i ≤ n) (fun i => [(15, .func (.func 201) #[] #[.pointer (some ⟨b6, 0, none⟩), .pointer (some ⟨b9, 0, none⟩), .pointer (some ⟨b14, 0, none⟩), .pointer (some ⟨b7, 0, none⟩), .pointer (some ⟨b8, 0, none⟩)]), (31, .int .i64 n), (32, .int .i64 i)]) (fun i => pt b6 (ax [.pointer (some ⟨pb, 0, none⟩)] 64) :: pt b9 (ax [.int .i64 who] 3) :: pt b14 (ax [.slice (some ⟨g, 0, none⟩) (bO ws n).length (bO ws n).length] 98) :: pt b7 (ax [.pointer (some ⟨ps, 0, none⟩)] 63) :: pt b8 (ax [.pointer (some ⟨pm, 0, none⟩)] 207) :: pt g (ax ((bO ws n).map wV) 42) :: da pb (ps, (d8 who (bO ws n) i x).po) :: bG ps (d8 who (bO ws n) i x).fr :: pt pm (dF (d8 who (bO ws n) i x).pg) :: R) (fun i => n - i) 0 ?_ ?_ ?_ ?_
 exact Nat.zero_le _
 · repeat (first | exact aX | refine aV rfl ?_)
 rw [show d8 who (bO ws n) 0 x = x from rfl]
 exact inferInstance
 intro i hi
 refine ae (ah (aa rfl (b0 rfl rfl) (ag (ab (ae ?_)))))
 refine aw rfl ?_ ?_
 intro c7
 refine aB (ab (ae (aW (ae (ah (aa rfl (ac rfl) (aa rfl (ai rfl) (ag (ab (ae ?_))))))))))
 have hin : i < n := by omega
 have hfr := qR (who := who) (words := bO ws n) (x := x) i
 have hpg := (qS (who := who) (words := bO ws n) hf h.pg.len i (by omega)).1
 obtain ⟨f, l, he⟩ : ∃ f l, bP (d8 who (bO ws n) i x).po who = f :: l := by
  cases e : bP (d8 who (bO ws n) i x).po who with
  | nil => rw [e] at hfr; simp at hfr; omega
  | cons f l => exact ⟨f, l, rfl⟩
 refine ah (aa rfl (ac rfl) (aa rfl (ac rfl) ?_))
 refine am rfl (ot (us := []) (cs := [.pointer (some ⟨b6, 0, none⟩), .pointer (some ⟨b9, 0, none⟩), .pointer (some ⟨b14, 0, none⟩), .pointer (some ⟨b7, 0, none⟩), .pointer (some ⟨b8, 0, none⟩)]) rfl call201 rfl (BR W0 R b6 b9 b14 b7 b8 g pb ps pm who i f l (d8 who (bO ws n) i x) (hok i) (bO ws n) hw (by omega) he (hpg i (Nat.le_refl _) (by omega)) hcb (by omega))) ?_
 rintro _ B_ ⟨rfl, hB_⟩
 obtain rfl := hB_.symm
 refine aa rfl (ai rfl) (ag (ab (ae (ah (aa rfl (ac rfl) (aa rfl (bI rfl rfl) (ag (ab ?_))))))))
 refine aw rfl ?_ ?_
 intro c10
 exact absurd c10 (by decide)
 intro c10
 refine aB (bH (ab (ah ?_)))
 refine aa rfl (bF rfl rfl (by first | exact aZ (by omega) | rfl)) ?_
 refine aa rfl (ac rfl) (ag (ab ?_))
 refine cG (i + 1) ?_ ?_ ?_ ?_
 omega
 omega
 · repeat (first | exact aX | refine aV rfl ?_)
 exact ent_refl
 intro c7
 refine cj (bi (bi (co (ab (ae (ah (aa rfl (ai rfl) (ag (ab (av (au (.inl rfl) (.cons (ak rfl) .nil) ?_)))))))))))
 obtain rfl : i = n := by omega
 exact ⟨_, ⟨rfl, rfl⟩, inferInstance⟩
@[reducible] def fz (x : Int × Bool) : List Value := [.int .i64 x.1]
@[reducible] def fA (x : Int × Bool) : List Value := [.bool x.2]
def d6 (pb : Nat) (x : Nat × Po) : HP := chk (fun C => ∃ a c a2 c2, C = [pt pb (ax [.pointer (some ⟨x.1, 0, none⟩), .slice a x.2.length c, .slice a2 x.2.length c2] 344), osl 3 1 (.slice a x.2.length c) (x.2.flatMap fz), osl 4 1 (.slice a2 x.2.length c2) (x.2.flatMap fA)])
section
variable {P : Program} {W0 : World} {N : FSz} {K : Act → World → Prop} {e : bQ} {A B R R1 R2 R3 : List HP} {pb ps n : Nat} {po : Po} {f : FuncId} {args : List Value} {Post : Value → List HP → Prop}
theorem nr (po : Po) : (po.flatMap fz).length = po.length := by rw [dr (k := 1) (fun _ => rfl)]; omega
theorem ns (po : Po) : (po.flatMap fA).length = po.length := by rw [dr (k := 1) (fun _ => rfl)]; omega
theorem w0 [hk : Tk d6 pb A (ps, po) R] (h : ∀ a c a2 c2, aT W0 N K e (pt pb (ax [.pointer (some ⟨ps, 0, none⟩), .slice a po.length c, .slice a2 po.length c2] 344) :: osl 3 1 (.slice a po.length c) (po.flatMap fz) :: osl 4 1 (.slice a2 po.length c2) (po.flatMap fA) :: R)) : aT W0 N K e A :=
  ed (r := d6) (b := pb) (jh fun C hC => by obtain ⟨a, c, a2, c2, rfl⟩ := hC; exact h a c a2 c2)
theorem w3 {a a2 : Option Addr} {c c2 n2 : Nat} {xs ys : List Value} [h1 : Tk pt pb A (ax [.pointer (some ⟨ps, 0, none⟩), .slice a n c, .slice a2 n2 c2] 344) R1] [h2 : Tk (osl 3 1) (.slice a n c) R1 xs R2] [h3 : Tk (osl 4 1) (.slice a2 n2 c2) R2 ys R3]
    (hn : n = po.length) (hn2 : n2 = po.length) (hx : xs = po.flatMap fz) (hy : ys = po.flatMap fA) [k : Ent R3 B] : Ent A (d6 pb (ps, po) :: B) := by
 subst hn; subst hn2; subst hx; subst hy
 exact (Ent.ofPerm (h1.perm.trans ((h2.perm.trans (h3.perm.cons _)).cons _))).trans ((Ent.cons (Ent.cons (Ent.cons k))).trans (eZ (R := B) (C := [_, _, _]) ⟨a, c, a2, c2, rfl⟩))
theorem s7 [hk : Tk d6 pb A (ps, po) R] (h0 : 0 < po.length) (h : ∀ g c g2 c2 sp sp2, po.length ≤ c → c ≤ maxLen → (po.flatMap fz ++ sp).length = c * 1 → po.length ≤ c2 → c2 ≤ maxLen → (po.flatMap fA ++ sp2).length = c2 * 1 →
    aT W0 N K e (pt pb (ax [.pointer (some ⟨ps, 0, none⟩), .slice (some ⟨g, 0, none⟩) po.length c, .slice (some ⟨g2, 0, none⟩) po.length c2] 344) :: pt g (ax (po.flatMap fz ++ sp) 3) :: pt g2 (ax (po.flatMap fA ++ sp2) 4) :: R)) : aT W0 N K e A := by
 refine w0 (pb := pb) fun a c a2 c2 => ?_
 refine ed (r := osl 3 1) (b := .slice a po.length c) ?_
 refine gN (fun h1 h2 => by have := congrArg List.length h2; rw [nr, List.length_nil] at this; omega) fun g n cap sp h1 h2 h3 h4 h5 => ?_
 cases h1
 refine ed (r := osl 4 1) (b := .slice a2 po.length c2) ?_
 refine gN (fun h1 h2 => by have := congrArg List.length h2; rw [ns, List.length_nil] at this; omega) fun g2 n2 cap2 sp2 k1 k2 k3 k4 k5 => ?_
 cases k1
 exact f9 inferInstance (h g c g2 c2 sp sp2 h2 h3 h5 k2 k3 k5)
theorem jn {g g2 c c2 n2 : Nat} {xs ys sp sp2 : List Value} [h1 : Tk pt pb A (ax [.pointer (some ⟨ps, 0, none⟩), .slice (some ⟨g, 0, none⟩) n c, .slice (some ⟨g2, 0, none⟩) n2 c2] 344) R1] [h2 : Tk pt g R1 (ax (xs ++ sp) 3) R2] [h3 : Tk pt g2 R2 (ax (ys ++ sp2) 4) R3]
    (hn : n = po.length) (hn2 : n2 = po.length) (hx : xs = po.flatMap fz) (hy : ys = po.flatMap fA) (a1 : n ≤ c) (a2 : c ≤ maxLen) (a3 : (xs ++ sp).length = c * 1) (b1 : n2 ≤ c2) (b2 : c2 ≤ maxLen) (b3 : (ys ++ sp2).length = c2 * 1) [k : Ent R3 B] : Ent A (d6 pb (ps, po) :: B) := by
 have e3 : Ent R2 (osl 4 1 (.slice (some ⟨g2, 0, none⟩) n2 c2) ys :: B) := fa b1 b2 (by rw [hy, ns, hn2]; omega) b3
 have e2 : Ent R1 (osl 3 1 (.slice (some ⟨g, 0, none⟩) n c) xs :: osl 4 1 (.slice (some ⟨g2, 0, none⟩) n2 c2) ys :: B) := fa (k := e3) a1 a2 (by rw [hx, nr, hn]; omega) a3
 refine (Ent.ofPerm h1.perm).trans ((Ent.cons e2).trans ?_)
 exact w3 hn hn2 hx hy
end
theorem oZ {po : Po} {sp : List Value} {i : Nat} (hi : i < po.length) : (po.flatMap fz ++ sp)[i * 1]? = some (.int .i64 (d7 po i).1) := by
 have := jz (f := fz) (k := 1) (fun _ => rfl) po i 0 sp hi (by decide)
 rw [Nat.add_zero] at this
 rw [this]; simp [fz, d7, List.getD, hi]
theorem s8 {po : Po} {sp : List Value} {i : Nat} (hi : i < po.length) : (po.flatMap fA ++ sp)[i * 1]? = some (.bool (d7 po i).2) := by
 have := jz (f := fA) (k := 1) (fun _ => rfl) po i 0 sp hi (by decide)
 rw [Nat.add_zero] at this
 rw [this]; simp [fA, d7, List.getD, hi]
theorem w4 {po : Po} {sp : List Value} {i : Nat} {v : Int} {t : Bool} (hi : i < po.length) : (po.flatMap fz ++ sp).set (i * 1) (.int .i64 v) = (po.set i (v, t)).flatMap fz ++ sp := by
 have := mD (f := fz) (k := 1) (fun _ => rfl) po i 0 (.int .i64 v) (v, t) sp hi (by decide) (by simp [fz])
 rwa [Nat.add_zero] at this
theorem w5 {po : Po} {sp : List Value} {i : Nat} {v : Int} {t : Bool} (hi : i < po.length) : (po.flatMap fA ++ sp).set (i * 1) (.bool t) = (po.set i (v, t)).flatMap fA ++ sp := by
 have := mD (f := fA) (k := 1) (fun _ => rfl) po i 0 (.bool t) (v, t) sp hi (by decide) (by simp [fA])
 rwa [Nat.add_zero] at this
theorem BU {po : Po} {i : Nat} {t : Bool} (hi : i < po.length) : (po.set i ((d7 po i).1, t)).flatMap fz = po.flatMap fz := by
 have h := w4 (po := po) (sp := []) (i := i) (v := (d7 po i).1) (t := t) hi
 rw [List.append_nil, List.append_nil, Nat.mul_one] at h
 rw [← h]
 refine rn ?_
 have := oZ (po := po) (sp := []) hi
 rwa [List.append_nil, Nat.mul_one] at this
theorem BV {po : Po} {i : Nat} {v : Int} (hi : i < po.length) : (po.set i (v, (d7 po i).2)).flatMap fA = po.flatMap fA := by
 have h := w5 (po := po) (sp := []) (i := i) (v := v) (t := (d7 po i).2) hi
 rw [List.append_nil, List.append_nil, Nat.mul_one] at h
 rw [← h]
 refine rn ?_
 have := s8 (po := po) (sp := []) hi
 rwa [List.append_nil, Nat.mul_one] at this
theorem BW (W0 : World) (R : List HP) (qs : Nat) (fr : List bZ) (f : Nat) (hf : f < fr.length) :
    aC Tryz.prog W0 193 [.pointer (some ⟨qs, 0, none⟩), .int .i64 f] (cZ qs fr :: R) (fun v B => v = .int .i64 0 ∧ B = cZ qs (fr.set f bE) :: R) := by
 have hi : dy fr.length f = true := by simp only [dy, decide_eq_true_eq]; omega
 refine aG func193 ntmps193 rfl rfl ?_
 refine ae (ah (aa rfl (ai rfl) (ag (ab (ae (ae (ah (aa rfl (ac rfl) (aa rfl (ac rfl) (am rfl (bn pM rfl (nj W0 _ qs fr f)) ?_))))))))))
 rintro _ B_ ⟨rfl, hB_⟩
 obtain rfl := hB_.symm
 refine aa rfl (bM rfl) (ag (ab ?_))
 refine aw rfl ?_ ?_
 intro c1
 exact absurd c1 (by simp [hi])
 intro c1
 refine aB (ab (ae ?_))
 refine rU (qs := qs) hf fun a c vs vi hv hvi => ?_
 refine lS (E := 174) (sz := 1) (v := .slice a fr.length c) (fun h1 h2 => by have := (Value.slice.inj h1).2.1; omega) fun g n c' sp h1 h2 h3 h4 h5 => ?_
 cases h1
 refine cA [(qs, 0, _)] 8 cz rfl (aK aJ) (fun hS => ?_)
 refine aj 0 rfl rfl (by kernel_rfl) (by kernel_rfl) (by kernel_rfl) rfl hS (ac rfl) ?_
 refine aj 1 rfl rfl (by kernel_rfl) (by kernel_rfl) (by kernel_rfl) rfl hS (aF rfl) ?_
 refine aj 2 rfl rfl (by kernel_rfl) (by kernel_rfl) (by kernel_rfl) rfl hS (al rfl iD rfl gJ rfl (by first | exact Nat.zero_add _ | rfl)) ?_
 refine aj 3 rfl rfl (by kernel_rfl) (by kernel_rfl) (by kernel_rfl) rfl hS (ao jc rfl (aD (k := 0) rfl rfl)) ?_
 refine aj 4 rfl rfl (by kernel_rfl) (by kernel_rfl) (by kernel_rfl) rfl hS (ac rfl) ?_
 refine bA 5 (by kernel_rfl) rfl rfl (mM (sz := 1) (by_ := 1) (info := Tryz.t5) dI (by kernel_rfl) rfl rfl rfl rfl (by decide) rfl rfl rfl rfl (by decide) (by decide)) rfl ?_; clear hS
 rintro _ _ ⟨g3, rfl, rfl⟩
 refine ⟨(aK aJ), fun hS => ?_⟩
 refine aj 6 rfl rfl (by kernel_rfl) (by kernel_rfl) (by kernel_rfl) rfl hS (ce ig kj rfl rfl rfl hf (by first | exact Nat.zero_add _ | rfl)) ?_
 refine bA 7 (by kernel_rfl) rfl rfl (cm kj rfl rfl rfl (by rw [List.length_append]; omega) (by rw [Nat.mul_one, List.set_append_left _ _ (by omega)])) rfl ?_; clear hS
 rintro _ _ rfl
 refine ⟨(aK aJ), fun hS => ?_⟩
 refine bL (by kernel_rfl) ?_; clear hS
 refine ab (ae (ah (aa rfl (ai rfl) (ag (ab (av (au (.inl rfl) (.cons (ak rfl) .nil) ?_)))))))
 exact ⟨_, ⟨rfl, rfl⟩, rV (vs := vs) (vi := .slice (some ⟨g3, 0, none⟩) 64 64) (y := bE) (sp2 := []) rfl rfl rfl hv rfl hf h2 h3 (by rw [← h5]; simp) (by decide) (by decide) rfl rfl⟩
theorem BX (n : Nat) : (List.replicate n ((-1 : Int), false)).flatMap fz ++ [[Value.int .i64 (-1)]].flatten = (List.replicate (n + 1) ((-1 : Int), false)).flatMap fz := by
 rw [List.replicate_succ', List.flatMap_append]; rfl
theorem BY (n : Nat) : (List.replicate n ((-1 : Int), false)).flatMap fA ++ [[Value.bool false]].flatten = (List.replicate (n + 1) ((-1 : Int), false)).flatMap fA := by
 rw [List.replicate_succ', List.flatMap_append]; rfl
section
variable {A B R R2 : List HP} {qs n c : Nat} {a : Option Addr} {fr : List bZ} {vs : List Value}
theorem w6 {x : HP} (hv : vs.length = fr.length) : Ent (pt qs (ax [.slice a fr.length c] 193) :: osl 174 1 (.slice a fr.length c) vs :: ((vs.zip fr).map e9 ++ (x :: R))) (cZ qs fr :: x :: R) := kR (vs := vs) hv rfl
theorem BZ {x : HP} (hv : vs.length = fr.length) : Ent (pt qs (ax [.slice a fr.length c] 193) :: osl 174 1 (.slice a fr.length c) vs :: ((vs.zip fr).map e9 ++ (x :: R))) (x :: cZ qs fr :: R) := (w6 hv).trans (Ent.ofPerm (List.Perm.swap _ _ _))
end
theorem C0 {B : List HP} {pb ps : Nat} : Ent (pt pb (ax [.pointer (some ⟨ps, 0, none⟩), du, du] 344) :: B) (d6 pb (ps, []) :: B) :=
  (Ent.cons (fH (E := 3) (sz := 1) (k := fH (E := 4) (sz := 1) (A := B) (B := B)))).trans (eZ (R := B) (C := [_, _, _]) ⟨none, 0, none, 0, rfl⟩)
theorem C1 (W0 : World) (R : List HP) (qs : Nat) (fr : List bZ) (h0 : 0 < fr.length) (h32 : fr.length ≤ 32) :
    aC Tryz.prog W0 78 [.pointer (some ⟨qs, 0, none⟩)] (cZ qs fr :: R)
      (fun v B => ∃ pb, v = .tuple #[.pointer (some ⟨pb, 0, none⟩), .int .i64 0] ∧ B = d6 pb (qs, List.replicate fr.length (-1, false)) :: cZ qs fr :: R) := by
 refine aG func78 ntmps78 rfl rfl ?_
 refine ae (ah (aa rfl (ai rfl) (aa rfl (ai rfl) (ag (ab (ae (ae ?_)))))))
 refine kQ (qs := qs) fun a c vs hv => ?_
 refine ah (aa rfl (ac rfl) (aa rfl (dv Fl rfl rfl) (aa rfl (ac rfl) ?_)))
 refine bC rfl rfl rfl ?_ ?_
 intro g1_3
 cases g1_3
 intro g1_3
 refine aa rfl (ac rfl) (ar rfl rfl (aa rfl (aF rfl) (ar rfl rfl ?_)))
 refine aa rfl (al rfl iD rfl gJ rfl (by first | exact Nat.zero_add _ | rfl)) ?_
 refine ar rfl rfl (aa rfl (ao jc rfl (aA rfl)) ?_)
 refine ar rfl rfl (aa rfl (bu ig rfl) (ar rfl rfl (aa rfl (cu rfl rfl) (aa rfl (aM rfl rfl) (ag (ab ?_))))))
 refine aw rfl ?_ ?_
 intro c1
 omega
 intro c1
 refine aB (ab (ae (ah (aa rfl (ac rfl) (aa rfl (bY gy zeroValue344 (aH jJ (aH dh (aH kl bX))) (bq rfl jJ rfl rfl (Nat.le_of_ble_eq_true rfl) SetL.eq bW)) ?_)))))
 refine am rfl (bJ rfl) ?_
 rintro _ _ ⟨pb, rfl, rfl⟩
 refine aa rfl (ai rfl) (ag (ab (ae (ae (ah (aa rfl (ai rfl) (ag (ab (aW ?_)))))))))
 refine cT (fun X : Nat => X ≤ fr.length) (fun X => [(0, .pointer (some ⟨qs, 0, none⟩)), (4, .pointer (some ⟨pb, 0, none⟩)), (5, .int .i64 X)]) (fun X => d6 pb (qs, List.replicate X (-1, false)) :: cZ qs fr :: R) (fun X => fr.length - X) 0 ?_ ?_ ?_ ?_
 exact Nat.zero_le _
 · repeat (first | exact aX | refine aV rfl ?_)
 exact (Ent.cons (kR (vs := vs) hv rfl)).trans C0
 intro i hi
 refine ae (ae ?_)
 refine kQ (qs := qs) fun a c vs hv => ?_
 refine ah (aa rfl (ac rfl) (aa rfl (ac rfl) (aa rfl (aF rfl) ?_)))
 refine aa rfl (al rfl iD rfl gJ rfl (by first | exact Nat.zero_add _ | rfl)) ?_
 refine aa rfl (ao jc rfl (aA rfl)) ?_
 refine aa rfl (bu ig rfl) (aa rfl (b0 rfl rfl) (ag (ab ?_)))
 refine aw rfl ?_ ?_
 intro c5
 refine aB (ab (ae (aW (ae (f9 (B := cZ qs fr :: d6 pb (qs, List.replicate i (-1, false)) :: R) (w6 hv) ?_)))))
 refine w0 (pb := pb) fun a c a2 c2 => ?_
 refine ah (aa rfl (ac rfl) (aa rfl (ac rfl) (aa rfl (aF rfl) ?_)))
 refine aa rfl (al rfl gy rfl dh rfl (by first | exact Nat.zero_add _ | rfl)) ?_
 refine aa rfl (ao eU rfl (aA rfl)) ?_
 refine am rfl (gD dC az ma rfl rfl rfl rfl rfl (by decide) (by decide)) ?_
 rintro _ _ ⟨b2, rfl, rfl⟩
 refine am rfl (dP (sz := 1) (by_ := 8) (info := Tryz.t3) dC (by kernel_rfl) rfl rfl rfl rfl (by decide) rfl rfl dQ rfl rfl (by simp only [maxLen, List.length_replicate]; omega) (by rw [List.length_replicate]; omega)) ?_
 rintro _ _ ⟨a3, c3, rfl, rfl⟩
 refine aa rfl (aF rfl) ?_
 refine aa rfl (al rfl gy rfl dh rfl (by first | exact Nat.zero_add _ | rfl)) ?_
 refine bD (cm dh rfl rfl rfl (Nat.le_of_ble_eq_true rfl) SetL.eq) ?_
 rintro _ _ rfl
 refine ag (ab (ah (aa rfl (ac rfl) (aa rfl (ac rfl) (aa rfl (aF rfl) ?_)))))
 refine aa rfl (al rfl gy rfl kl rfl (by first | exact Nat.zero_add _ | rfl)) ?_
 refine aa rfl (ao nM rfl (aA rfl)) ?_
 refine am rfl (gD mf cB zeroValue4 rfl rfl rfl rfl rfl (by decide) (by decide)) ?_
 rintro _ _ ⟨b3, rfl, rfl⟩
 refine am rfl (dP (sz := 1) (by_ := 1) (info := Tryz.t4) mf (by kernel_rfl) rfl rfl rfl rfl (by decide) rfl rfl dQ rfl rfl (by simp only [maxLen, List.length_replicate]; omega) (by rw [List.length_replicate]; omega)) ?_
 rintro _ _ ⟨a4, c4, rfl, rfl⟩
 refine aa rfl (aF rfl) ?_
 refine aa rfl (al rfl gy rfl kl rfl (by first | exact Nat.zero_add _ | rfl)) ?_
 refine bD (cm kl rfl rfl rfl (Nat.le_of_ble_eq_true rfl) SetL.eq) ?_
 rintro _ _ rfl
 refine ag (bH (ab (ah (aa rfl (ac rfl) ?_))))
 refine aa rfl (bF rfl rfl (by first | exact aZ (by omega) | rfl)) ?_
 refine aa rfl (ai rfl) (ag (ab ?_))
 refine cG (i + 1) ?_ ?_ ?_ ?_
 omega
 omega
 · repeat (first | exact aX | refine aV rfl ?_)
 exact w3 (by simp) (by simp) (BX i) (BY i)
 intro c5
 refine cj (bi (bi (co (ab (ae (ah (aa rfl (ac rfl) (aa rfl (ai rfl) (aa rfl (ai rfl) (ag (ab (av (au (.inl rfl) (.cons (ak rfl) (.cons (ak rfl) .nil)) ?_)))))))))))))
 obtain rfl : i = fr.length := by omega
 exact ⟨_, ⟨pb, rfl, rfl⟩, BZ hv⟩
theorem C2 {po : Po} {sp : List Value} {i : Nat} (hi : i < po.length) : i * 1 + 1 ≤ (po.flatMap fz ++ sp).length := by rw [List.length_append, nr]; omega
theorem C3 {po : Po} {sp : List Value} {i : Nat} (hi : i < po.length) : i * 1 + 1 ≤ (po.flatMap fA ++ sp).length := by rw [List.length_append, ns]; omega
theorem C4 (W0 : World) (R : List HP) (pb qs : Nat) (po : Po) (fr : List bZ) (f w : Nat) (hf : f < po.length) (hff : f < fr.length) (hw : w < 16) (ha : d7 po f = (-1, false)) :
    aC Tryz.prog W0 80 [.pointer (some ⟨pb, 0, none⟩), .int .i64 f, .int .i64 w] (d6 pb (qs, po) :: cZ qs fr :: R)
      (fun v B => v = .int .i64 0 ∧ B = d6 pb (qs, po.set f ((w : Int), false)) :: cZ qs (fr.set f bE) :: R) := by
 have hi : dy fr.length f = true := by simp only [dy, decide_eq_true_eq]; omega
 have hts : (po.set f ((w : Int), false)).flatMap fA = po.flatMap fA := by
  have := BV (po := po) (i := f) (v := (w : Int)) hf
  rwa [ha] at this
 refine aG func80 ntmps80 rfl rfl ?_
 refine ae (ah (aa rfl (ai rfl) (ag (ab (ae (ae ?_))))))
 refine s7 (pb := pb) (by omega) fun g c g2 c2 sp sp2 h1 h2 h3 k1 k2 k3 => ?_
 refine ah (aa rfl (ac rfl) (aa rfl (aF rfl) ?_))
 refine aa rfl (al rfl gy rfl jJ rfl (by first | exact Nat.zero_add _ | rfl)) ?_
 refine aa rfl (ao tf rfl (aA rfl)) ?_
 refine aa rfl (ac rfl) (am rfl (bn pM rfl (nj W0 _ qs fr f)) ?_)
 rintro _ B_ ⟨rfl, hB_⟩
 obtain rfl := hB_.symm
 refine aa rfl (bM rfl) (aa rfl (ac rfl) ?_)
 refine bC rfl rfl rfl ?_ ?_
 intro g1_8
 exact absurd g1_8 (by simp [hi])
 intro g1_8
 refine aa rfl (ac rfl) (ar rfl rfl (aa rfl (b0 rfl rfl) (aa rfl (aM rfl rfl) (aa rfl (ac rfl) ?_))))
 refine bC rfl rfl rfl ?_ ?_
 intro g1_12
 omega
 intro g1_12
 refine aa rfl (ac rfl) (ar rfl rfl (aa rfl (cK rfl rfl) (aa rfl (aM rfl rfl) (ag (ab ?_)))))
 refine aw rfl ?_ ?_
 intro c1
 omega
 intro c1
 refine aB (ab (ae (ae (ah (aa rfl (ac rfl) (aa rfl (aF rfl) ?_))))))
 refine aa rfl (al rfl gy rfl dh rfl (by first | exact Nat.zero_add _ | rfl)) ?_
 refine aa rfl (ao eU rfl (aA rfl)) ?_
 refine aa rfl (ac rfl) ?_
 refine aa rfl (ce dC az rfl rfl rfl hf (by first | exact Nat.zero_add _ | rfl)) ?_
 refine aa rfl (ao aQ rfl (aA (oZ hf))) ?_
 refine aa rfl (cK rfl rfl) (ag (ab ?_))
 refine aw rfl ?_ ?_
 intro c3
 exact absurd c3 (by rw [ha]; decide)
 intro c3
 refine aB (ab (ae (ah (aa rfl (ac rfl) (aa rfl (aF rfl) ?_)))))
 refine aa rfl (al rfl gy rfl dh rfl (by first | exact Nat.zero_add _ | rfl)) ?_
 refine aa rfl (ao eU rfl (aA rfl)) ?_
 refine aa rfl (ac rfl) (aa rfl (ac rfl) ?_)
 refine aa rfl (ce dC az rfl rfl rfl hf (by first | exact Nat.zero_add _ | rfl)) ?_
 refine bD (cm az rfl rfl rfl (C2 hf) (w4 (t := false) hf)) ?_
 rintro _ _ rfl
 refine ag (ab (ae (ah (aa rfl (ac rfl) (aa rfl (aF rfl) ?_)))))
 refine aa rfl (al rfl gy rfl jJ rfl (by first | exact Nat.zero_add _ | rfl)) ?_
 refine aa rfl (ao tf rfl (aA rfl)) ?_
 refine aa rfl (ac rfl) (am rfl (bn call193 rfl (BW W0 _ qs fr f hff)) ?_)
 rintro _ B_ ⟨rfl, hB_⟩
 obtain rfl := hB_.symm
 refine ag (ab (ae (ah (aa rfl (ai rfl) (ag (ab (av (au (.inl rfl) (.cons (ak rfl) .nil) ?_))))))))
 exact ⟨_, ⟨rfl, rfl⟩, jn (by simp) (by simp) rfl hts.symm h1 h2 (by rw [List.length_append, nr, List.length_set, ← nr, ← List.length_append]; exact h3) k1 k2 k3⟩
def it (po : Po) (w : Int) (k : Nat) : Nat := ((List.range k).filter fun f => decide (d7 po f = (w, false))).length
theorem w7 (po : Po) (w : Nat) : it po w po.length = (bP po w).length := by
 rw [it, bP]; congr 2; funext f; rw [Bool.eq_iff_iff, decide_eq_true_iff, beq_iff_eq]
theorem C5 (po : Po) (w : Int) (k : Nat) : it po w (k + 1) = it po w k + if d7 po k = (w, false) then 1 else 0 := by
 rw [it, List.range_succ, List.filter_append, List.length_append, it]
 congr 1
 by_cases h : d7 po k = (w, false)
 simp [h]
 simp [h]
theorem C6 (po : Po) (w : Int) (k : Nat) : it po w k ≤ k := by
 have := List.length_filter_le (fun f => decide (d7 po f = (w, false))) (List.range k)
 rwa [List.length_range] at this
theorem C7 (W0 : World) (R : List HP) (pb qs : Nat) (po : Po) (w : Nat) (h0 : 0 < po.length) (h32 : po.length ≤ 32) :
    aC Tryz.prog W0 307 [.pointer (some ⟨pb, 0, none⟩), .int .i64 w] (d6 pb (qs, po) :: R) (fun v B => v = .int .i64 ((bP po w).length : Nat) ∧ B = d6 pb (qs, po) :: R) := by
 refine aG func307 ntmps307 rfl rfl ?_
 refine ae (ah (aa rfl (ai rfl) (ag (ab (ae (ah (aa rfl (ai rfl) (ag (ab (ae (ae (ah (aa rfl (ai rfl) (ag (ab (aW ?_))))))))))))))))
 refine cT (fun i : Nat => i ≤ po.length) (fun i => [(0, .pointer (some ⟨pb, 0, none⟩)), (1, .int .i64 w), (5, .int .i64 (it po w i : Nat)), (6, .int .i64 i)]) (fun _ => d6 pb (qs, po) :: R) (fun i => po.length - i) 0 ?_ ?_ ?_ ?_
 exact Nat.zero_le _
 · repeat (first | exact aX | refine aV rfl ?_)
 exact inferInstance
 intro i hi
 refine s7 (pb := pb) (by omega) fun g c g2 c2 sp sp2 h1 h2 h3 k1 k2 k3 => ?_
 have hle := C6 po w i
 refine ae (ae (ah (aa rfl (ac rfl) (aa rfl (ac rfl) (aa rfl (aF rfl) ?_)))))
 refine aa rfl (al rfl gy rfl dh rfl (by first | exact Nat.zero_add _ | rfl)) ?_
 refine aa rfl (ao eU rfl (aA rfl)) ?_
 refine aa rfl (bu dC rfl) (aa rfl (b0 rfl rfl) (aa rfl (ac rfl) ?_))
 refine cJ rfl rfl rfl ?_ ?_
 intro g3_8
 refine aa rfl (ac rfl) (ar rfl rfl (aa rfl (ac rfl) (ar rfl rfl (aa rfl (aF rfl) (ar rfl rfl ?_)))))
 refine aa rfl (al rfl gy rfl kl rfl (by first | exact Nat.zero_add _ | rfl)) ?_
 refine ar rfl rfl (aa rfl (ao nM rfl (aA rfl)) ?_)
 refine ar rfl rfl (aa rfl (bu mf rfl) (ar rfl rfl (aa rfl (b0 rfl rfl) (aa rfl (aY rfl rfl) (ag (ab ?_))))))
 refine aw rfl ?_ ?_
 intro c3
 refine aB (ab ?_)
 refine gM (fun n : Nat => n = it po w (i + 1) ∧ i < po.length) (fun n => [(0, .pointer (some ⟨pb, 0, none⟩)), (1, .int .i64 w), (5, .int .i64 n), (6, .int .i64 i)]) (fun _ => d6 pb (qs, po) :: R) ?_ ?_
 skip
 refine aW (ae ?_)
 have hi1 : i < po.length := by omega
 have hs := C5 po w i
 refine ah (aa rfl (ac rfl) (aa rfl (aF rfl) ?_))
 refine aa rfl (al rfl gy rfl dh rfl (by first | exact Nat.zero_add _ | rfl)) ?_
 refine aa rfl (ao eU rfl (aA rfl)) ?_
 refine aa rfl (ac rfl) ?_
 refine aa rfl (ce dC az rfl rfl rfl hi1 (by first | exact Nat.zero_add _ | rfl)) ?_
 refine aa rfl (ao aQ rfl (aA (oZ hi1))) ?_
 refine aa rfl (ac rfl) (aa rfl (cu rfl rfl) (aa rfl (ac rfl) ?_))
 refine cJ rfl rfl rfl ?_ ?_
 intro g5_10
 refine aa rfl (ac rfl) (ar rfl rfl (aa rfl (cK rfl rfl) (aa rfl (aY rfl rfl) (aa rfl (ac rfl) ?_))))
 refine cJ rfl rfl rfl ?_ ?_
 intro g5_14
 refine aa rfl (ac rfl) (ar rfl rfl (aa rfl (aF rfl) (ar rfl rfl ?_)))
 refine aa rfl (al rfl gy rfl kl rfl (by first | exact Nat.zero_add _ | rfl)) ?_
 refine ar rfl rfl (aa rfl (ao nM rfl (aA rfl)) ?_)
 refine ar rfl rfl (aa rfl (ac rfl) (ar rfl rfl ?_))
 refine aa rfl (ce mf cB rfl rfl rfl hi1 (by first | exact Nat.zero_add _ | rfl)) ?_
 refine ar rfl rfl (aa rfl (ao fM rfl (aA (s8 hi1))) ?_)
 refine ar rfl rfl (aa rfl (bM rfl) (aa rfl (aY rfl rfl) (ag (ab ?_))))
 refine aw rfl ?_ ?_
 intro c5
 refine ah (aa rfl (ac rfl) ?_)
 refine aa rfl (bF rfl rfl (aZ (by omega))) ?_
 refine aa rfl (ai rfl) (ag (bH (ab ?_)))
 refine dz (it po w i + 1) ?_ ?_ ?_
 · refine ⟨?_, hi1⟩
   rw [hs, if_pos (by rw [show d7 po i = ((d7 po i).1, (d7 po i).2) from rfl]; first | (congr 1; simp_all; done) | (rw [Prod.mk.injEq]; simp_all))]
 · repeat (first | exact aX | refine aV rfl ?_)
 exact jn rfl rfl rfl rfl h1 h2 h3 k1 k2 k3
 intro c5
 refine aB (bH (ab ?_))
 refine dz (it po w i) ?_ ?_ ?_
 refine ⟨?_, hi1⟩
 rw [hs, if_neg (by intro q; have q1 := congrArg Prod.fst q; have q2 := congrArg Prod.snd q; simp_all)]; rfl
 · repeat (first | exact aX | refine aV rfl ?_)
 exact jn rfl rfl rfl rfl h1 h2 h3 k1 k2 k3
 intro g5_14
 refine ap rfl rfl rfl rfl (ap rfl rfl rfl rfl (ap rfl rfl rfl rfl (ap rfl rfl rfl rfl (ap rfl rfl rfl rfl (ap rfl rfl rfl rfl (ap rfl rfl rfl rfl (aa rfl (aM rfl rfl) (ag (ab (eY rfl (aB (bH (ab ?_)))))))))))))
 refine dz (it po w i) ?_ ?_ ?_
 refine ⟨?_, hi1⟩
 rw [hs, if_neg (by intro q; have q1 := congrArg Prod.fst q; have q2 := congrArg Prod.snd q; simp_all)]; rfl
 · repeat (first | exact aX | refine aV rfl ?_)
 exact jn rfl rfl rfl rfl h1 h2 h3 k1 k2 k3
 intro g5_10
 refine ap rfl rfl rfl rfl (aa rfl (aM rfl rfl) (aa rfl (ac rfl) (ap rfl rfl rfl rfl (ap rfl rfl rfl rfl (ap rfl rfl rfl rfl (ap rfl rfl rfl rfl (ap rfl rfl rfl rfl (ap rfl rfl rfl rfl (ap rfl rfl rfl rfl (ap rfl rfl rfl rfl (aa rfl (aM rfl rfl) (ag (ab (eY rfl (aB (bH (ab ?_)))))))))))))))))
 refine dz (it po w i) ?_ ?_ ?_
 refine ⟨?_, hi1⟩
 rw [hs, if_neg (by intro q; have q1 := congrArg Prod.fst q; have q2 := congrArg Prod.snd q; simp_all)]; rfl
 · repeat (first | exact aX | refine aV rfl ?_)
 exact jn rfl rfl rfl rfl h1 h2 h3 k1 k2 k3
 intro n ⟨hn, hi1⟩
 subst hn
 refine ah (aa rfl (ac rfl) ?_)
 refine aa rfl (bF rfl rfl (aZ (by omega))) ?_
 refine aa rfl (ai rfl) (ag (ab ?_))
 refine cG (i + 1) ?_ ?_ ?_ ?_
 omega
 omega
 · repeat (first | exact aX | refine aV rfl ?_)
 exact inferInstance
 intro c3
 refine cj (bi (bi (co (ab (ae (ah (aa rfl (ac rfl) (aa rfl (ai rfl) (ag (ab (av (au (.inl rfl) (.cons (ak rfl) .nil) ?_))))))))))))
 obtain rfl : i = po.length := by omega
 rw [w7]
 exact ⟨_, ⟨rfl, rfl⟩, jn rfl rfl rfl rfl h1 h2 h3 k1 k2 k3⟩
 intro g3_8
 refine ap rfl rfl rfl rfl (ap rfl rfl rfl rfl (ap rfl rfl rfl rfl (ap rfl rfl rfl rfl (ap rfl rfl rfl rfl (ap rfl rfl rfl rfl (aa rfl (aM rfl rfl) (ag (ab (eY rfl (cj (bi (bi (co (ab (ae (ah (aa rfl (ac rfl) (aa rfl (ai rfl) (ag (ab (av (au (.inl rfl) (.cons (ak rfl) .nil) ?_))))))))))))))))))))))
 obtain rfl : i = po.length := by omega
 rw [w7]
 exact ⟨_, ⟨rfl, rfl⟩, jn rfl rfl rfl rfl h1 h2 h3 k1 k2 k3⟩
theorem C8 (W0 : World) (R : List HP) (pb qs : Nat) (po : Po) (w f : Nat) (l : List Nat) (hw : w < 16) (h32 : po.length ≤ 32) (he : bP po w = f :: l) :
    aC Tryz.prog W0 309 [.pointer (some ⟨pb, 0, none⟩), .int .i64 w] (d6 pb (qs, po) :: R)
      (fun v B => v = .tuple #[.int .i64 f, .int .i64 0] ∧ B = d6 pb (qs, po.set f ((w : Int), true)) :: R) := by
 have hf := i3.1 (show f ∈ bP po w by rw [he]; simp)
 have hlow : ∀ j, j < f → d7 po j ≠ ((w : Int), false) := fun j hj q => by
  have hm := i3.2 ⟨by have := hf.1; omega, q⟩
  have hs := oB po w
  rw [he] at hm hs
  rw [List.pairwise_cons] at hs
  rcases List.mem_cons.1 hm with k | k
  omega
  have := hs.1 j k; omega
 have hws : (po.set f ((w : Int), true)).flatMap fz = po.flatMap fz := by
  have := BU (po := po) (i := f) (t := true) hf.1
  rwa [hf.2] at this
 refine aG func309 ntmps309 rfl rfl ?_
 refine ae (ah (aa rfl (ai rfl) (aa rfl (ai rfl) (ag (ab (ae (ae (ah (aa rfl (ac rfl) (aa rfl (b0 rfl rfl) (aa rfl (ac rfl) ?_)))))))))))
 refine bC rfl rfl rfl ?_ ?_
 intro g1_3
 omega
 intro g1_3
 refine aa rfl (ac rfl) (ar rfl rfl (aa rfl (cK rfl rfl) (aa rfl (aM rfl rfl) (ag (ab ?_)))))
 refine aw rfl ?_ ?_
 intro c1
 omega
 intro c1
 refine aB (ab (ae (ae (ah (aa rfl (ai rfl) (ag (ab (aW ?_))))))))
 refine cT (fun i : Nat => i ≤ f) (fun i => [(0, .pointer (some ⟨pb, 0, none⟩)), (1, .int .i64 w), (6, .int .i64 i)]) (fun _ => d6 pb (qs, po) :: R) (fun i => po.length - i) 0 ?_ ?_ ?_ ?_
 exact Nat.zero_le _
 · repeat (first | exact aX | refine aV rfl ?_)
 exact inferInstance
 intro i hi
 have hfl := hf.1
 refine s7 (pb := pb) (by omega) fun g c g2 c2 sp sp2 h1 h2 h3 k1 k2 k3 => ?_
 refine ae (ae (ah (aa rfl (ac rfl) (aa rfl (ac rfl) (aa rfl (aF rfl) ?_)))))
 refine aa rfl (al rfl gy rfl dh rfl (by first | exact Nat.zero_add _ | rfl)) ?_
 refine aa rfl (ao eU rfl (aA rfl)) ?_
 refine aa rfl (bu dC rfl) (aa rfl (b0 rfl rfl) (aa rfl (ac rfl) ?_))
 refine cJ rfl rfl rfl ?_ ?_
 intro g4_8
 refine aa rfl (ac rfl) (ar rfl rfl (aa rfl (ac rfl) (ar rfl rfl (aa rfl (aF rfl) (ar rfl rfl ?_)))))
 refine aa rfl (al rfl gy rfl kl rfl (by first | exact Nat.zero_add _ | rfl)) ?_
 refine ar rfl rfl (aa rfl (ao nM rfl (aA rfl)) ?_)
 refine ar rfl rfl (aa rfl (bu mf rfl) (ar rfl rfl (aa rfl (b0 rfl rfl) (aa rfl (aY rfl rfl) (ag (ab ?_))))))
 refine aw rfl ?_ ?_
 intro c4
 refine aB (ab (ae (aW (ae ?_))))
 have hi1 : i < po.length := by omega
 refine ah (aa rfl (ac rfl) (aa rfl (aF rfl) ?_))
 refine aa rfl (al rfl gy rfl dh rfl (by first | exact Nat.zero_add _ | rfl)) ?_
 refine aa rfl (ao eU rfl (aA rfl)) ?_
 refine aa rfl (ac rfl) ?_
 refine aa rfl (ce dC az rfl rfl rfl hi1 (by first | exact Nat.zero_add _ | rfl)) ?_
 refine aa rfl (ao aQ rfl (aA (oZ hi1))) ?_
 refine aa rfl (ac rfl) (aa rfl (cu rfl rfl) (aa rfl (ac rfl) ?_))
 refine cJ rfl rfl rfl ?_ ?_
 intro g6_10
 refine aa rfl (ac rfl) (ar rfl rfl (aa rfl (aF rfl) (ar rfl rfl ?_)))
 refine aa rfl (al rfl gy rfl kl rfl (by first | exact Nat.zero_add _ | rfl)) ?_
 refine ar rfl rfl (aa rfl (ao nM rfl (aA rfl)) ?_)
 refine ar rfl rfl (aa rfl (ac rfl) (ar rfl rfl ?_))
 refine aa rfl (ce mf cB rfl rfl rfl hi1 (by first | exact Nat.zero_add _ | rfl)) ?_
 refine ar rfl rfl (aa rfl (ao fM rfl (aA (s8 hi1))) ?_)
 refine ar rfl rfl (aa rfl (bM rfl) (aa rfl (aY rfl rfl) (ag (ab ?_))))
 refine aw rfl ?_ ?_
 intro c6
 refine ae ?_
 have hif : i = f := by
  rcases Nat.lt_or_ge i f with q | q
  exact absurd (by rw [Prod.ext_iff]; constructor <;> simp_all) (hlow i q)
  omega
 subst hif
 refine ah (aa rfl (ac rfl) (aa rfl (aF rfl) ?_))
 refine aa rfl (al rfl gy rfl kl rfl (by first | exact Nat.zero_add _ | rfl)) ?_
 refine aa rfl (ao nM rfl (aA rfl)) ?_
 refine aa rfl (ac rfl) ?_
 refine aa rfl (ce mf cB rfl rfl rfl hi1 (by first | exact Nat.zero_add _ | rfl)) ?_
 refine bD (cm cB rfl rfl rfl (C3 hi1) (w5 (v := (w : Int)) hi1)) ?_
 rintro _ _ rfl
 refine ag (ab (ae (ah (aa rfl (ac rfl) (aa rfl (ai rfl) (aa rfl (ai rfl) (ag (ab (av (bj (aE (aE (bj (aE (au (.inl rfl) (.cons (ak rfl) (.cons (ak rfl) .nil)) ?_)))))))))))))))
 exact ⟨_, ⟨rfl, rfl⟩, jn (by simp) (by simp) hws.symm rfl h1 h2 h3 k1 k2 (by rw [List.length_append, ns, List.length_set, ← ns, ← List.length_append]; exact k3)⟩
 intro c6
 refine aB (bH (ab ?_))
 have hne : i ≠ f := by
  intro q; subst q
  have q1 := congrArg Prod.fst hf.2
  have q2 := congrArg Prod.snd hf.2
  simp_all
 refine ah (aa rfl (ac rfl) ?_)
 refine aa rfl (bF rfl rfl (aZ (by omega))) ?_
 refine aa rfl (ai rfl) (ag (ab ?_))
 refine cG (i + 1) ?_ ?_ ?_ ?_
 show i + 1 ≤ f; omega
 omega
 · repeat (first | exact aX | refine aV rfl ?_)
 exact jn rfl rfl rfl rfl h1 h2 h3 k1 k2 k3
 intro g6_10
 refine ap rfl rfl rfl rfl (ap rfl rfl rfl rfl (ap rfl rfl rfl rfl (ap rfl rfl rfl rfl (ap rfl rfl rfl rfl (ap rfl rfl rfl rfl (ap rfl rfl rfl rfl (aa rfl (aM rfl rfl) (ag (ab (eY rfl (aB (bH (ab ?_)))))))))))))
 have hne : i ≠ f := by
  intro q; subst q
  have q1 := congrArg Prod.fst hf.2
  have q2 := congrArg Prod.snd hf.2
  simp_all
 refine ah (aa rfl (ac rfl) ?_)
 refine aa rfl (bF rfl rfl (aZ (by omega))) ?_
 refine aa rfl (ai rfl) (ag (ab ?_))
 refine cG (i + 1) ?_ ?_ ?_ ?_
 show i + 1 ≤ f; omega
 omega
 · repeat (first | exact aX | refine aV rfl ?_)
 exact jn rfl rfl rfl rfl h1 h2 h3 k1 k2 k3
 intro c4
 refine cj (bi (bi (co (ab (ae (ah (aa rfl (ai rfl) (aa rfl (ai rfl) (ag (ab (av (au (.inl rfl) (.cons (ak rfl) (.cons (ak rfl) .nil)) ?_))))))))))))
 exfalso; omega
 intro g4_8
 refine ap rfl rfl rfl rfl (ap rfl rfl rfl rfl (ap rfl rfl rfl rfl (ap rfl rfl rfl rfl (ap rfl rfl rfl rfl (ap rfl rfl rfl rfl (aa rfl (aM rfl rfl) (ag (ab (eY rfl (cj (bi (bi (co (ab (ae (ah (aa rfl (ai rfl) (aa rfl (ai rfl) (ag (ab (av (au (.inl rfl) (.cons (ak rfl) (.cons (ak rfl) .nil)) ?_))))))))))))))))))))))
 exfalso; omega
theorem C9 (W0 : World) (R : List HP) (a : Option Addr) (c p : Nat) (ws : List Nat) (h1 : 1 ≤ p) (hp : p ≤ 8) (hn : ws.length < 9223372036854775808) (hc : ws.length ≤ c) :
    aC Tryz.prog W0 308 [.slice a ws.length c, .int .i64 p] R (fun v B => v = .slice a (bO ws p).length c ∧ B = R) := by
 have hl := nq ws p
 refine aG func308 ntmps308 rfl rfl ?_
 refine ae (ah (aa rfl (ai rfl) (ag (ab (ae (ae (ah (aa rfl (ac rfl) (aa rfl (b0 rfl rfl) (ag (ab ?_)))))))))))
 refine aw rfl ?_ ?_
 intro c1
 omega
 intro c1
 refine aB (ab (ae (ah (aa rfl (ac rfl) (aa rfl (mN rfl rfl (vX hp)) ?_)))))
 refine aa rfl (il rfl rfl (by rw [aZ (by omega)]; omega : IntKind.wrap .i64 (16 * (p : Int)) = ((16 * p : Nat) : Int))) ?_
 refine aa rfl (ai rfl) (ag (ab (ae (ah (aa rfl (ac rfl) (aa rfl (ac rfl) (aa rfl (ac rfl) (aa rfl (bu iX rfl) (aa rfl (mN rfl rfl (s6 (16 * p) ws.length)) ?_)))))))))
 refine aa rfl (kB iX cQ rfl rfl (h := min (16 * p) ws.length) rfl (by omega)) ?_
 refine aa rfl (ai rfl) (ag (ab (av (au (.inl rfl) (.cons (ak rfl) .nil) ?_))))
 rw [hl]
 exact ⟨_, ⟨rfl, rfl⟩, inferInstance⟩
theorem Ca {ws : List Nat} {i k : Nat} (hk : k < 16) : (d4 ws i)[k]? = ws[16 * i + k]? := by
 rw [d4, List.getElem?_take_of_lt hk, List.getElem?_drop]
theorem Cb {f : Nat} {ws : List Nat} {i k : Nat} (hk : k < 16) (fr : List bZ) : f2 f ((d4 ws i).take (k + 1)) 0 fr = match ws[16 * i + k]? with | some y => f0 (f2 f ((d4 ws i).take k) 0 fr) f (4 * k : Nat) 4 y | none => f2 f ((d4 ws i).take k) 0 fr := by
 have hg := Ca (ws := ws) (i := i) hk
 cases e : ws[16 * i + k]? with
 | none =>
  rw [e] at hg
  have := List.getElem?_eq_none_iff.1 hg
  rw [List.take_of_length_le (by omega), List.take_of_length_le this]
 | some y =>
  rw [e] at hg
  obtain ⟨hlt, hy⟩ := List.getElem?_eq_some_iff.1 hg
  rw [List.take_succ_eq_append_getElem hlt, hy, qQ, List.length_take, Nat.min_eq_left (by omega), Nat.zero_add]
theorem Cc (W0 : World) (R : List HP) (pb qs pm who n : Nat) (x : Im) (h : ImOk x) (h0 : 0 < x.fr.length) (a : Option Addr) (c : Nat) (ws : List Nat) (hw : who < 16) (h1 : 1 ≤ n) (h8 : n ≤ 8) (hf : kK x.pg 0 8) (hl : n ≤ (bP x.po who).length)
    (hs : ∀ A, Ent A R → cF (bK W0 A) a 1 iR ws) (hb : ∀ y ∈ ws, y < 4294967296) (hn : ws.length < 9223372036854775808) (hc : ws.length ≤ c) :
    aC Tryz.prog W0 214 [.pointer (some ⟨pb, 0, none⟩), .pointer (some ⟨qs, 0, none⟩), .pointer (some ⟨pm, 0, none⟩), .int .i64 who, .int .i64 n, .slice a ws.length c] (d6 pb (qs, x.po) :: cZ qs x.fr :: pt pm (gv x.pg) :: R)
      (fun v B => v = .int .i64 0 ∧ B = d6 pb (qs, (d8 who (bO ws n) n x).po) :: cZ qs (d8 who (bO ws n) n x).fr :: pt pm (gv (d8 who (bO ws n) n x).pg) :: R) := by
 have hlen := nq ws n
 have hle := h.len
 have hcb : ∀ y ∈ bO ws n, y < 4294967296 := fun y hy => hb y (List.mem_of_mem_take hy)
 have hok : ∀ i, ImOk (d8 who (bO ws n) i x) := fun i => kJ hw h
 have hcs : ∀ A, Ent A R → cF (bK W0 A) a 1 iR (bO ws n) := fun A hA => (hs A hA).take _
 have hp32 : ∀ i, (d8 who (bO ws n) i x).po.length ≤ 32 := fun i => (hok i).po.len
 refine aG func214 ntmps214 rfl rfl ?_
 refine ae (ah (aa rfl (ai rfl) (ag (ab (ae (ae (ah (aa rfl (ac rfl) (aa rfl (b0 rfl rfl) (aa rfl (ac rfl) ?_))))))))))
 refine bC rfl rfl rfl ?_ ?_
 intro g1_3
 omega
 intro g1_3
 refine aa rfl (ac rfl) (ar rfl rfl (aa rfl (cy rfl rfl) (aa rfl (aM rfl rfl) (aa rfl (ac rfl) ?_))))
 refine bC rfl rfl rfl ?_ ?_
 intro g1_7
 omega
 intro g1_7
 refine aa rfl (ac rfl) (ar rfl rfl (aa rfl (b0 rfl rfl) (aa rfl (aM rfl rfl) (aa rfl (ac rfl) ?_))))
 refine bC rfl rfl rfl ?_ ?_
 intro g1_11
 omega
 intro g1_11
 refine aa rfl (ac rfl) (ar rfl rfl (aa rfl (cK rfl rfl) (aa rfl (aM rfl rfl) (ag (ab ?_)))))
 refine aw rfl ?_ ?_
 intro c1
 omega
 intro c1
 refine aB (ab (ae (ae (ah (aa rfl (ai rfl) (ag (ab (aW ?_))))))))
 refine cT (fun i : Nat => i ≤ n) (fun i => [(0, .pointer (some ⟨pb, 0, none⟩)), (1, .pointer (some ⟨qs, 0, none⟩)), (2, .pointer (some ⟨pm, 0, none⟩)), (3, .int .i64 who), (4, .int .i64 n), (5, .slice a ws.length c), (13, .int .i64 i)]) (fun i => d6 pb (qs, x.po) :: cZ qs x.fr :: pt pm (gv x.pg) :: R) (fun i => n - i) 0 ?_ ?_ ?_ ?_
 exact Nat.zero_le _
 · repeat (first | exact aX | refine aV rfl ?_)
 exact inferInstance
 intro i hi
 refine ae (ae (ah (aa rfl (ac rfl) (aa rfl (ac rfl) (aa rfl (b0 rfl rfl) (ag (ab ?_)))))))
 refine aw rfl ?_ ?_
 intro c4
 refine aB (ab (ae (aW (ae (ah (aa rfl (ac rfl) (aa rfl (ac rfl) (am rfl (bn call306 rfl (BC pm x.pg h.pg i)) ?_))))))))
 rintro _ B_ ⟨rfl, hB_⟩
 obtain rfl := hB_.symm
 refine aa rfl (ac rfl) (aa rfl (aS rfl rfl) (aa rfl (aS rfl rfl) (am rfl (cM jb) ?_)))
 rintro _ _ ⟨bx, rfl, rfl⟩
 refine bD (cD fk rfl rfl rfl rfl rfl) ?_
 rintro _ _ rfl
 refine aa rfl (ai rfl) (ag (ab (ae (ah (aa rfl (ac rfl) (ag (ab ?_)))))))
 refine aw rfl ?_ ?_
 intro c7
 exact absurd c7 (by rw [hf i (Nat.zero_le _) (by omega)]; decide)
 intro c7
 refine aB (bH (ab (ah (aa rfl (ac rfl) ?_))))
 refine aa rfl (bF rfl rfl (by first | exact aZ (by omega) | rfl)) ?_
 refine aa rfl (ai rfl) (ag (ab ?_))
 refine cG (i + 1) ?_ ?_ ?_ ?_
 omega
 omega
 · repeat (first | exact aX | refine aV rfl ?_)
 exact inferInstance
 intro c4
 refine cj (bi (bi (co (ab (ae (ae (ah (aa rfl (ac rfl) (aa rfl (ac rfl) ?_)))))))))
 refine am rfl (bn call307 rfl (C7 W0 _ pb qs x.po who (by omega) (hp32 0))) ?_
 rintro _ B_ ⟨rfl, hB_⟩
 obtain rfl := hB_.symm
 refine aa rfl (ac rfl) (aa rfl (b0 rfl rfl) (ag (ab ?_)))
 refine aw rfl ?_ ?_
 intro c9
 omega
 intro c9
 refine aB (ab (ae (ah (aa rfl (ac rfl) (aa rfl (ac rfl) (am rfl (aU call308 rfl (C9 W0 _ a c n ws h1 h8 hn hc)) ?_))))))
 rintro _ B_ ⟨rfl, hB_⟩
 obtain rfl := hB_.symm
 refine aa rfl (ai rfl) (ag (ab (ae (ae (ah (aa rfl (ai rfl) (ag (ab (aW ?_)))))))))
 refine cT (fun i : Nat => i ≤ n) (fun i => [(0, .pointer (some ⟨pb, 0, none⟩)), (1, .pointer (some ⟨qs, 0, none⟩)), (2, .pointer (some ⟨pm, 0, none⟩)), (3, .int .i64 who), (4, .int .i64 n), (16, .slice a (bO ws n).length c), (17, .int .i64 i)]) (fun i => d6 pb (qs, (d8 who (bO ws n) i x).po) :: cZ qs (d8 who (bO ws n) i x).fr :: pt pm (gv (d8 who (bO ws n) i x).pg) :: R) (fun i => n - i) 0 ?_ ?_ ?_ ?_
 exact Nat.zero_le _
 · repeat (first | exact aX | refine aV rfl ?_)
 exact ent_refl
 intro i hi
 refine ae (ae (ah (aa rfl (ac rfl) (aa rfl (ac rfl) (aa rfl (b0 rfl rfl) (ag (ab ?_)))))))
 refine aw rfl ?_ ?_
 intro c13
 refine aB (ab (ae (aW (ae ?_))))
 have hin : i < n := by omega
 have hfr := qR (who := who) (words := bO ws n) (x := x) i
 have hpg := (qS (who := who) (words := bO ws n) hf h.pg.len i (by omega)).1
 obtain ⟨f, l, he⟩ : ∃ f l, bP (d8 who (bO ws n) i x).po who = f :: l := by
  cases e : bP (d8 who (bO ws n) i x).po who with
  | nil => rw [e] at hfr; simp at hfr; omega
  | cons f l => exact ⟨f, l, rfl⟩
 obtain ⟨y, hy⟩ : ∃ y, d8 who (bO ws n) i x = y := ⟨_, rfl⟩
 have hoki := hok i
 have hnx : d8 who (bO ws n) (i + 1) x = g8 who (bO ws n) y i := by rw [d8, hy]
 have hp32i := hp32 i
 have hti := hpg i (Nat.le_refl _) (by omega)
 rw [hy] at he hoki hp32i hti ⊢
 rw [g8, he] at hnx
 dsimp only at hnx
 have hff := i3.1 (show f ∈ bP y.po who by rw [he]; simp)
 refine ah (aa rfl (ac rfl) (aa rfl (ac rfl) (am rfl (bn call309 rfl (C8 W0 _ pb qs y.po who f l hw hp32i he)) ?_)))
 rintro _ B_ ⟨rfl, hB_⟩
 obtain rfl := hB_.symm
 refine aa rfl (ac rfl) (aa rfl (aS rfl rfl) (aa rfl (aS rfl rfl) (aa rfl (ai rfl) (aa rfl (ai rfl) (ag (ab (ae (ah (aa rfl (ac rfl) (aa rfl (ac rfl) (aa rfl (ac rfl) (aa rfl (bY gI jb (aH az (aH az bX)) (bq rfl az rfl rfl (Nat.le_of_ble_eq_true rfl) SetL.eq (bq rfl az rfl rfl (Nat.le_of_ble_eq_true rfl) SetL.eq bW))) ?_))))))))))))
 refine am rfl (bn xV rfl (rX pm y.pg hoki.pg i ((f : Int), 3))) ?_
 rintro _ B_ ⟨rfl, hB_⟩
 obtain rfl := hB_.symm
 refine ag (ab (ae (ah (aa rfl (ai rfl) (ag (ab (aW ?_)))))))
 refine cT (fun k : Nat => k ≤ 16) (fun k => [(0, .pointer (some ⟨pb, 0, none⟩)), (1, .pointer (some ⟨qs, 0, none⟩)), (2, .pointer (some ⟨pm, 0, none⟩)), (3, .int .i64 who), (4, .int .i64 n), (16, .slice a (bO ws n).length c), (17, .int .i64 i), (18, .int .i64 f), (20, .int .i64 k)]) (fun k => d6 pb (qs, y.po.set f ((who : Int), true)) :: cZ qs (f2 f ((d4 (bO ws n) i).take k) 0 y.fr) :: pt pm (gv (ew y.pg i ((f : Int), 3))) :: R) (fun k => 16 - k) 0 ?_ ?_ ?_ ?_
 exact Nat.zero_le _
 · repeat (first | exact aX | refine aV rfl ?_)
 rw [show f2 f ((d4 (bO ws n) i).take 0) 0 y.fr = y.fr from rfl]
 exact inferInstance
 intro k hk
 refine ae (ae (ah (aa rfl (ac rfl) (aa rfl (b0 rfl rfl) (ag (ab ?_))))))
 refine aw rfl ?_ ?_
 intro c18
 refine aB (ab ?_)
 refine gM (fun _ : Unit => k < 16) (fun _ => [(0, .pointer (some ⟨pb, 0, none⟩)), (1, .pointer (some ⟨qs, 0, none⟩)), (2, .pointer (some ⟨pm, 0, none⟩)), (3, .int .i64 who), (4, .int .i64 n), (16, .slice a (bO ws n).length c), (17, .int .i64 i), (18, .int .i64 f), (20, .int .i64 k)]) (fun _ => d6 pb (qs, y.po.set f ((who : Int), true)) :: cZ qs (f2 f ((d4 (bO ws n) i).take (k + 1)) 0 y.fr) :: pt pm (gv (ew y.pg i ((f : Int), 3))) :: R) ?_ ?_
 skip
 refine aW (ae ?_)
 have hk1 : k < 16 := by omega
 have hwt := Cb (f := f) (ws := bO ws n) (i := i) hk1 y.fr
 refine ah (aa rfl (ac rfl) ?_)
 refine aa rfl (il rfl rfl (by rw [aZ (by omega)]; omega : IntKind.wrap .i64 (16 * (i : Int)) = ((16 * i : Nat) : Int))) ?_
 refine aa rfl (ac rfl) ?_
 refine aa rfl (bF rfl rfl (by rw [aZ (by omega)]; omega : IntKind.wrap .i64 (((16 * i : Nat) : Int) + (k : Int)) = ((16 * i + k : Nat) : Int))) ?_
 refine aa rfl (ac rfl) (aa rfl (bu iX rfl) (aa rfl (b0 rfl rfl) (ag (ab ?_))))
 refine aw rfl ?_ ?_
 intro c20
 have hlt : 16 * i + k < (bO ws n).length := by omega
 obtain ⟨gb, go, hga, hc'⟩ := (hcs (d6 pb (qs, y.po.set f ((who : Int), true)) :: cZ qs (f2 f ((d4 (bO ws n) i).take k) 0 y.fr) :: pt pm (gv (ew y.pg i ((f : Int), 3))) :: R) inferInstance).at_ hlt
 obtain ⟨z, hz⟩ : ∃ z, (bO ws n)[16 * i + k] = z := ⟨_, rfl⟩
 rw [hz] at hc'
 have hzb := hcb _ (List.getElem_mem hlt)
 rw [hz] at hzb
 obtain ⟨hF, hFl⟩ := lI (f := f) (l := (d4 (bO ws n) i).take k) (k := 0) hoki.fr
 rw [List.getElem?_eq_getElem hlt, hz] at hwt
 dsimp only at hwt
 refine ah (aa rfl (ac rfl) (aa rfl (ac rfl) (aa rfl (ac rfl) ?_)))
 refine aa rfl (il rfl rfl (by rw [aZ (by omega)]; omega : IntKind.wrap .i64 (4 * (k : Int)) = ((4 * k : Nat) : Int))) ?_
 refine aa rfl (ac rfl) (aa rfl (ac rfl) ?_)
 refine aa rfl (il rfl rfl (by rw [aZ (by omega)]; omega : IntKind.wrap .i64 (16 * (i : Int)) = ((16 * i : Nat) : Int))) ?_
 refine aa rfl (ac rfl) ?_
 refine aa rfl (bF rfl rfl (by rw [aZ (by omega)]; omega : IntKind.wrap .i64 (((16 * i : Nat) : Int) + (k : Int)) = ((16 * i + k : Nat) : Int))) ?_
 refine aa rfl (dH iX cQ rfl hga rfl rfl hlt (by first | exact Nat.zero_add _ | rfl)) ?_
 refine aa rfl (ao fm rfl (hc' 0 _ rfl)) ?_
 refine am rfl (bn call310 rfl (Bw W0 _ qs (f2 f ((d4 (bO ws n) i).take k) 0 y.fr) f (4 * k : Nat) 4 z hzb hF)) ?_
 rintro _ B_ ⟨rfl, hB_⟩
 obtain rfl := hB_.symm
 refine ag (bH (ab ?_))
 refine dz () ?_ ?_ ?_
 exact hk1
 · repeat (first | exact aX | refine aV rfl ?_)
 rw [hwt]
 exact inferInstance
 intro c20
 refine aB (bH (ab ?_))
 refine dz () ?_ ?_ ?_
 exact hk1
 · repeat (first | exact aX | refine aV rfl ?_)
 rw [hwt, List.getElem?_eq_none (by omega)]
 exact inferInstance
 intro _ hk1
 refine ah (aa rfl (ac rfl) ?_)
 refine aa rfl (bF rfl rfl (by first | exact aZ (by omega) | rfl)) ?_
 refine aa rfl (ai rfl) (ag (ab ?_))
 refine cG (k + 1) ?_ ?_ ?_ ?_
 omega
 omega
 · repeat (first | exact aX | refine aV rfl ?_)
 exact inferInstance
 intro c18
 refine cj (bi (bi (co (bH (ab (ah (aa rfl (ac rfl) ?_)))))))
 refine aa rfl (bF rfl rfl (by first | exact aZ (by omega) | rfl)) ?_
 refine aa rfl (ai rfl) (ag (ab ?_))
 refine cG (i + 1) ?_ ?_ ?_ ?_
 omega
 omega
 · repeat (first | exact aX | refine aV rfl ?_)
 obtain rfl : k = 16 := by omega
 rw [hnx, show (d4 (bO ws n) i).take 16 = d4 (bO ws n) i from List.take_of_length_le (by rw [d4, List.length_take]; omega)]
 exact inferInstance
 intro c13
 refine cj (bi (bi (co (ab (ae (ah (aa rfl (ai rfl) (ag (ab (av (au (.inl rfl) (.cons (ak rfl) .nil) ?_)))))))))))
 obtain rfl : i = n := by omega
 exact ⟨_, ⟨rfl, rfl⟩, inferInstance⟩
def j8 (b : Nat) (L : List Int) : HP := chk (fun C => ∃ a c, C = [pt b (ax [.slice a L.length c] 450), osl 3 1 (.slice a L.length c) (L.flatMap eE)])
section
variable {W0 : World} {N : FSz} {K : Act → World → Prop} {e : bQ} {A B R R1 R2 : List HP} {b n c : Nat} {L : List Int}
theorem Cd [hk : Tk j8 b A L R] (h : ∀ a c, aT W0 N K e (pt b (ax [.slice a L.length c] 450) :: osl 3 1 (.slice a L.length c) (L.flatMap eE) :: R)) : aT W0 N K e A :=
  ed (r := j8) (b := b) (jh fun C hC => by obtain ⟨a, c, rfl⟩ := hC; exact h a c)
theorem jG {a : Option Addr} {ys : List Value} [h1 : Tk pt b A (ax [.slice a n c] 450) R1] [h2 : Tk (osl 3 1) (.slice a n c) R1 ys R2] (hk : n = L.length) (hy : ys = L.flatMap eE) [q : Ent R2 B] : Ent A (j8 b L :: B) := by
 subst hk; subst hy
 exact (Ent.ofPerm (h1.perm.trans (h2.perm.cons _))).trans ((eZ (R := R2) (C := [_, _]) ⟨a, c, rfl⟩).trans (Ent.cons q))
end
theorem w8 (x : Int) : (eE x).length = 1 := rfl
theorem p0 (L : List Int) : (L.flatMap eE).length = L.length := by rw [dr w8]; omega
theorem Ce (L : List Int) (j : Nat) (w : Int) : (L.flatMap eE).set j (.int .i64 w) = (L.set j w).flatMap eE := by
 induction L generalizing j with
 | nil => rfl
 | cons x L ih =>
  cases j with
  | zero => rfl
  | succ j => simp only [List.flatMap_cons, eE, List.cons_append, List.nil_append, List.set_cons_succ] at ih ⊢; rw [ih]
theorem Cf (L : List Int) : eM (L.flatMap eE) = true := by
 induction L with
 | nil => rfl
 | cons x l ih => rw [List.flatMap_cons, eM, List.all_append, Bool.and_eq_true]; exact ⟨rfl, ih⟩
theorem w9 (n : Nat) (h : n ≤ 64) : aC Tryz.prog W0 194 [.int .i64 n] R (fun v B => ∃ b, v = .tuple #[.pointer (some ⟨b, 0, none⟩), .int .i64 0] ∧ B = j8 b (List.replicate n (-1)) :: R) := by
 refine aG func194 ntmps194 rfl rfl ?_
 refine ae (ah (aa rfl (ai rfl) (aa rfl (ai rfl) (ag (ab (ae (ae (ah (aa rfl (ac rfl) (aa rfl (b0 rfl rfl) (aa rfl (ac rfl) ?_)))))))))))
 refine bC rfl rfl rfl ?_ ?_
 intro g1_3
 omega
 intro g1_3
 refine aa rfl (ac rfl) (ar rfl rfl (aa rfl (cy rfl rfl) (aa rfl (aM rfl rfl) (ag (ab ?_)))))
 refine aw rfl ?_ ?_
 intro c1
 omega
 intro c1
 refine aB (ab (ae (ah (aa rfl (bY lf zeroValue450 (aH dh bX) bW) ?_))))
 refine am rfl (bJ rfl) ?_
 rintro _ _ ⟨bt, rfl, rfl⟩
 refine aa rfl (ai rfl) (ag (ab (ae (ae (ah (aa rfl (ai rfl) (ag (ab (aW ?_)))))))))
 refine cT (fun X : Nat × Option Addr × Nat => X.1 ≤ n) (fun X => [(0, .int .i64 n), (4, .pointer (some ⟨bt, 0, none⟩)), (5, .int .i64 X.1)]) (fun X => pt bt (ax [.slice X.2.1 X.1 X.2.2] 450) :: osl 3 1 (.slice X.2.1 X.1 X.2.2) ((List.replicate X.1 (-1)).flatMap eE) :: R) (fun X => n - X.1) (0, none, 0) ?_ ?_ ?_ ?_
 exact Nat.zero_le _
 · repeat (first | exact aX | refine aV rfl ?_)
 exact Ent.cons fH
 intro ⟨i, a, c⟩ hi
 dsimp only at hi ⊢
 refine ae (ae (ah (aa rfl (ac rfl) (aa rfl (ac rfl) (aa rfl (b0 rfl rfl) (ag (ab ?_)))))))
 refine aw rfl ?_ ?_
 intro c5
 refine aB (ab (ae (aW (ah (aa rfl (ac rfl) (aa rfl (ac rfl) (aa rfl (aF rfl) ?_)))))))
 refine aa rfl (al rfl lf rfl dh rfl (by first | exact Nat.zero_add _ | rfl)) ?_
 refine aa rfl (ao eU rfl (aA rfl)) ?_
 refine am rfl (gD dC az ma rfl rfl rfl rfl rfl (by decide) (by decide)) ?_
 rintro _ _ ⟨b2, rfl, rfl⟩
 refine am rfl (dP (sz := 1) (by_ := 8) (info := Tryz.t3) dC (by kernel_rfl) rfl rfl rfl rfl (by decide) rfl rfl dQ rfl rfl (by simp only [maxLen]; omega) (by omega)) ?_
 rintro _ _ ⟨a3, c3, rfl, rfl⟩
 have hmp : (List.replicate i (-1)).flatMap eE ++ [Value.int .i64 (-1)] = (List.replicate (i + 1) (-1 : Int)).flatMap eE := by
  rw [List.replicate_succ', List.flatMap_append]; rfl
 rw [hmp]
 refine aa rfl (aF rfl) ?_
 refine aa rfl (al rfl lf rfl dh rfl (by first | exact Nat.zero_add _ | rfl)) ?_
 refine bD (cm dh rfl rfl rfl (Nat.le_of_ble_eq_true rfl) SetL.eq) ?_
 rintro _ _ rfl
 refine ag (bH (ab (ah (aa rfl (ac rfl) ?_))))
 refine aa rfl (bF rfl rfl (by first | exact aZ (by omega) | rfl)) ?_
 refine aa rfl (ai rfl) (ag (ab ?_))
 refine cG (i + 1, a3, c3) ?_ ?_ ?_ ?_
 omega
 omega
 · repeat (first | exact aX | refine aV rfl ?_)
 exact inferInstance
 intro c5
 refine cj (bi (bi (co (ab (ae (ah (aa rfl (ac rfl) (aa rfl (ai rfl) (aa rfl (ai rfl) (ag (ab (av (au (.inl rfl) (.cons (ak rfl) (.cons (ak rfl) .nil)) ?_)))))))))))))
 obtain rfl : i = n := by omega
 exact ⟨_, ⟨bt, rfl, rfl⟩, jG (by simp) rfl⟩
def iS (L : List Int) (f k : Nat) (w : Int) : List Int := (List.range L.length).map fun j => if f ≤ j ∧ j < f + k then w else L.getD j (-1)
theorem s9 {L : List Int} {f k : Nat} {w : Int} : (iS L f k w).length = L.length := by simp [iS]
theorem Cg {L : List Int} {f : Nat} {w : Int} : iS L f 0 w = L := by
 apply List.ext_getElem
 exact s9
 intro i h1 h2
 simp only [iS, List.getElem_map, List.getElem_range]
 rw [if_neg (by omega)]; simp [List.getD, h2]
theorem Ch {L : List Int} {f k : Nat} {w : Int} (h : f + k < L.length) : (iS L f k w).set (f + k) w = iS L f (k + 1) w := by
 apply List.ext_getElem
 simp [iS]
 intro i h1 h2
 rw [List.getElem_set]
 simp only [iS, List.getElem_map, List.getElem_range]
 by_cases e : f + k = i
 rw [if_pos e, if_pos (by omega)]
 rw [if_neg e]
 by_cases q : f ≤ i ∧ i < f + k
 rw [if_pos q, if_pos (by omega)]
 rw [if_neg q, if_neg (by omega)]
theorem Ci {L : List Int} {f k : Nat} {w : Int} (h : f6 L f k w = 0) : gH L f k w = iS L f k w := by
 rw [gH, if_pos h, iS]
 apply List.map_congr_left
 intro i _
 by_cases q : f ≤ i ∧ i < f + k
 rw [if_pos q, if_pos (by omega)]
 rw [if_neg q, if_neg (by omega)]
theorem Cj {L : List Int} {f k i : Nat} {w : Int} (hb : ¬ ((f : Int) < 0 ∨ (k : Int) < 1 ∨ (L.length : Int) < f ∨ (L.length : Int) - f < k ∨ w < 0 ∨ 64 ≤ w)) (hi : i < k) (h : 0 ≤ L.getD (f + i) (-1)) : f6 L f k w = 5 := by
 rw [f6, if_neg hb, if_pos]
 rw [List.any_eq_true]
 exact ⟨i, List.mem_range.2 (by omega), decide_eq_true (by rw [Int.toNat_natCast]; exact h)⟩
theorem Ck {L : List Int} {f k : Nat} {w : Int} (hb : ¬ ((f : Int) < 0 ∨ (k : Int) < 1 ∨ (L.length : Int) < f ∨ (L.length : Int) - f < k ∨ w < 0 ∨ 64 ≤ w)) (h : ∀ j, j < k → ¬ 0 ≤ L.getD (f + j) (-1)) : f6 L f k w = 0 := by
 rw [f6, if_neg hb, if_neg]
 intro q
 obtain ⟨i, hi, hd⟩ := List.any_eq_true.1 q
 have hd := of_decide_eq_true hd
 rw [Int.toNat_natCast] at hd
 exact h i (by have := List.mem_range.1 hi; omega) hd
theorem wa (W0 : World) (R : List HP) (b : Nat) (L : List Int) (hl : L.length ≤ 64) (f k w : Int) :
    aC Tryz.prog W0 196 [.pointer (some ⟨b, 0, none⟩), .int .i64 f, .int .i64 k, .int .i64 w] (j8 b L :: R) (fun v B => v = .int .i64 (f6 L f k w) ∧ B = j8 b (gH L f k w) :: R) := by
 refine aG func196 ntmps196 rfl rfl ?_
 refine ae (ah (aa rfl (ai rfl) (ag (ab (ae (ae ?_))))))
 refine Cd (b := b) fun a c => ?_
 refine ah (aa rfl (ac rfl) (aa rfl (b0 rfl rfl) (aa rfl (ac rfl) ?_)))
 refine bC rfl rfl rfl ?_ ?_
 intro g1_3
 refine ap rfl rfl rfl rfl (aa rfl (aY rfl rfl) (aa rfl (ac rfl) (ap rfl rfl rfl rfl (ap rfl rfl rfl rfl (ap rfl rfl rfl rfl (ap rfl rfl rfl rfl (ap rfl rfl rfl rfl (ap rfl rfl rfl rfl (ap rfl rfl rfl rfl (aa rfl (aY rfl rfl) (aa rfl (ac rfl) (ap rfl rfl rfl rfl (ap rfl rfl rfl rfl (ap rfl rfl rfl rfl (ap rfl rfl rfl rfl (ap rfl rfl rfl rfl (ap rfl rfl rfl rfl (ap rfl rfl rfl rfl (ap rfl rfl rfl rfl (ap rfl rfl rfl rfl (aa rfl (aY rfl rfl) (aa rfl (ac rfl) (ap rfl rfl rfl rfl ?_)))))))))))))))))))))))
 refine ap rfl rfl rfl rfl (aa rfl (aY rfl rfl) (aa rfl (ac rfl) (ap rfl rfl rfl rfl (ap rfl rfl rfl rfl (aa rfl (aY rfl rfl) (ag (ab (cg rfl (ae (ah (aa rfl (ai rfl) (ag (ab (av (aE (au (.inl rfl) (.cons (ak rfl) .nil) ?_))))))))))))))))
 have he : f6 L f k w = 1 := by rw [f6, if_pos (by omega)]
 rw [gH, he, if_neg (by decide)]
 exact ⟨_, ⟨rfl, rfl⟩, jG rfl rfl⟩
 intro g1_3
 refine aa rfl (ac rfl) (ar rfl rfl (aa rfl (b0 rfl rfl) (aa rfl (aM rfl rfl) (aa rfl (ac rfl) ?_))))
 refine bC rfl rfl rfl ?_ ?_
 intro g1_7
 refine ap rfl rfl rfl rfl (ap rfl rfl rfl rfl (ap rfl rfl rfl rfl (ap rfl rfl rfl rfl (ap rfl rfl rfl rfl (ap rfl rfl rfl rfl (aa rfl (aY rfl rfl) (aa rfl (ac rfl) (ap rfl rfl rfl rfl (ap rfl rfl rfl rfl (ap rfl rfl rfl rfl (ap rfl rfl rfl rfl (ap rfl rfl rfl rfl (ap rfl rfl rfl rfl (ap rfl rfl rfl rfl (ap rfl rfl rfl rfl (ap rfl rfl rfl rfl (aa rfl (aY rfl rfl) (aa rfl (ac rfl) (ap rfl rfl rfl rfl (ap rfl rfl rfl rfl (aa rfl (aY rfl rfl) (aa rfl (ac rfl) (ap rfl rfl rfl rfl ?_)))))))))))))))))))))))
 refine ap rfl rfl rfl rfl (aa rfl (aY rfl rfl) (ag (ab (cg rfl (ae (ah (aa rfl (ai rfl) (ag (ab (av (aE (au (.inl rfl) (.cons (ak rfl) .nil) ?_))))))))))))
 have he : f6 L f k w = 1 := by rw [f6, if_pos (by omega)]
 rw [gH, he, if_neg (by decide)]
 exact ⟨_, ⟨rfl, rfl⟩, jG rfl rfl⟩
 intro g1_7
 refine aa rfl (ac rfl) (ar rfl rfl (aa rfl (ac rfl) (ar rfl rfl (aa rfl (aF rfl) (ar rfl rfl ?_)))))
 refine aa rfl (al rfl lf rfl dh rfl (by first | exact Nat.zero_add _ | rfl)) ?_
 refine ar rfl rfl (aa rfl (ao eU rfl (aA rfl)) ?_)
 refine ar rfl rfl (aa rfl (bu dC rfl) (ar rfl rfl (aa rfl (cy rfl rfl) (aa rfl (aM rfl rfl) (aa rfl (ac rfl) ?_)))))
 refine bC rfl rfl rfl ?_ ?_
 intro g1_16
 refine ap rfl rfl rfl rfl (ap rfl rfl rfl rfl (ap rfl rfl rfl rfl (ap rfl rfl rfl rfl (ap rfl rfl rfl rfl (ap rfl rfl rfl rfl (ap rfl rfl rfl rfl (ap rfl rfl rfl rfl (aa rfl (aY rfl rfl) (aa rfl (ac rfl) (ap rfl rfl rfl rfl (ap rfl rfl rfl rfl (aa rfl (aY rfl rfl) (aa rfl (ac rfl) (ap rfl rfl rfl rfl (ap rfl rfl rfl rfl (aa rfl (aY rfl rfl) (ag (ab (cg rfl (ae (ah (aa rfl (ai rfl) (ag ?_)))))))))))))))))))))))
 refine ab (av (aE (au (.inl rfl) (.cons (ak rfl) .nil) ?_)))
 have he : f6 L f k w = 1 := by rw [f6, if_pos (by omega)]
 rw [gH, he, if_neg (by decide)]
 exact ⟨_, ⟨rfl, rfl⟩, jG rfl rfl⟩
 intro g1_16
 refine aa rfl (ac rfl) (ar rfl rfl (aa rfl (ac rfl) (ar rfl rfl (aa rfl (aF rfl) (ar rfl rfl ?_)))))
 refine aa rfl (al rfl lf rfl dh rfl (by first | exact Nat.zero_add _ | rfl)) ?_
 refine ar rfl rfl (aa rfl (ao eU rfl (aA rfl)) ?_)
 refine ar rfl rfl (aa rfl (bu dC rfl) (ar rfl rfl (aa rfl (ac rfl) (ar rfl rfl ?_))))
 refine aa rfl (dX rfl rfl (aZ (by omega))) ?_
 refine ar rfl rfl (aa rfl (cy rfl rfl) (aa rfl (aM rfl rfl) (aa rfl (ac rfl) ?_)))
 refine bC rfl rfl rfl ?_ ?_
 intro g1_27
 refine ap rfl rfl rfl rfl (aa rfl (aY rfl rfl) (aa rfl (ac rfl) (ap rfl rfl rfl rfl (ap rfl rfl rfl rfl (aa rfl (aY rfl rfl) (ag (ab (cg rfl (ae (ah (aa rfl (ai rfl) (ag (ab (av (aE (au (.inl rfl) (.cons (ak rfl) .nil) ?_))))))))))))))))
 have he : f6 L f k w = 1 := by rw [f6, if_pos (by omega)]
 rw [gH, he, if_neg (by decide)]
 exact ⟨_, ⟨rfl, rfl⟩, jG rfl rfl⟩
 intro g1_27
 refine aa rfl (ac rfl) (ar rfl rfl (aa rfl (b0 rfl rfl) (aa rfl (aM rfl rfl) (aa rfl (ac rfl) ?_))))
 refine bC rfl rfl rfl ?_ ?_
 intro g1_31
 refine ap rfl rfl rfl rfl (aa rfl (aY rfl rfl) (ag (ab (cg rfl (ae (ah (aa rfl (ai rfl) (ag (ab (av (aE (au (.inl rfl) (.cons (ak rfl) .nil) ?_))))))))))))
 have he : f6 L f k w = 1 := by rw [f6, if_pos (by omega)]
 rw [gH, he, if_neg (by decide)]
 exact ⟨_, ⟨rfl, rfl⟩, jG rfl rfl⟩
 intro g1_31
 refine aa rfl (ac rfl) (ar rfl rfl (aa rfl (cK rfl rfl) (aa rfl (aM rfl rfl) (ag (ab ?_)))))
 refine aw rfl ?_ ?_
 intro c1
 refine ae (ah (aa rfl (ai rfl) (ag (ab (av (aE (au (.inl rfl) (.cons (ak rfl) .nil) ?_)))))))
 have he : f6 L f k w = 1 := by rw [f6, if_pos (by omega)]
 rw [gH, he, if_neg (by decide)]
 exact ⟨_, ⟨rfl, rfl⟩, jG rfl rfl⟩
 intro c1
 refine aB (ab (ae (ae ?_)))
 have hb : ¬ (f < 0 ∨ k < 1 ∨ (L.length : Int) < f ∨ (L.length : Int) - f < k ∨ w < 0 ∨ 64 ≤ w) := by omega
 obtain ⟨f, rfl⟩ : ∃ f' : Nat, f = (f' : Int) := ⟨f.toNat, by omega⟩
 obtain ⟨k, rfl⟩ : ∃ k' : Nat, k = (k' : Int) := ⟨k.toNat, by omega⟩
 have hfk : f + k ≤ L.length := by omega
 refine qX (E := 3) (sz := 1) (a := a) (c := c) (n := L.length) (ys := L.flatMap eE) (fun hf => ?_)
 obtain ⟨g, rfl⟩ := rk hf (by rw [← List.length_pos_iff, p0]; omega)
 refine ah (aa rfl (ai rfl) (ag (ab (aW ?_))))
 refine cT (fun i : Nat => i ≤ k ∧ ∀ j, j < i → ¬ 0 ≤ L.getD (f + j) (-1)) (fun i => [(0, .pointer (some ⟨b, 0, none⟩)), (1, .int .i64 f), (2, .int .i64 k), (3, .int .i64 w), (9, .int .i64 i)]) (fun i => pt b (ax [.slice (some ⟨g, 0, none⟩) L.length c] 450) :: osl 3 1 (.slice (some ⟨g, 0, none⟩) L.length c) (L.flatMap eE) :: R) (fun i => k - i) 0 ?_ ?_ ?_ ?_
 exact ⟨Nat.zero_le _, fun j hj => absurd hj (Nat.not_lt_zero j)⟩
 · repeat (first | exact aX | refine aV rfl ?_)
 exact inferInstance
 intro i ⟨hi, hI⟩
 refine ae (ae (ah (aa rfl (ac rfl) (aa rfl (ac rfl) (aa rfl (b0 rfl rfl) (ag (ab ?_)))))))
 refine aw rfl ?_ ?_
 intro c4
 refine aB (ab (ae (aW (ae ?_))))
 have hi1 : f + i < L.length := by omega
 have hgi : L[f + i]? = some (L.getD (f + i) (-1)) := by simp [List.getD, hi1]
 refine ah (aa rfl (ac rfl) (aa rfl (aF rfl) ?_))
 refine aa rfl (al rfl lf rfl dh rfl (by first | exact Nat.zero_add _ | rfl)) ?_
 refine aa rfl (ao eU rfl (aA rfl)) ?_
 refine aa rfl (ac rfl) (aa rfl (ac rfl) ?_)
 refine aa rfl (bF rfl rfl (by rw [aZ (by omega)]; omega : IntKind.wrap .i64 ((f : Int) + (i : Int)) = ((f + i : Nat) : Int))) ?_
 refine aa rfl (ce dC az rfl rfl rfl hi1 (by first | exact Nat.zero_add _ | rfl)) ?_
 refine aa rfl (ao aQ rfl (vm (f := eE) (E := 3) (sz := 1) (n := L.length) (c := c) rfl w8 (by decide) hgi 0 _ rfl)) ?_
 refine aa rfl (cK rfl rfl) (ag (ab ?_))
 refine aw rfl ?_ ?_
 intro c6
 refine ae (ah (aa rfl (ai rfl) (ag (ab (av (bj (aE (aE (bj (aE (au (.inl rfl) (.cons (ak rfl) .nil) ?_)))))))))))
 have he : f6 L f k w = 5 := Cj hb (by omega) c6
 rw [gH, he, if_neg (by decide)]
 exact ⟨_, ⟨rfl, rfl⟩, jG rfl rfl⟩
 intro c6
 refine aB (bH (ab (ah (aa rfl (ac rfl) ?_))))
 refine aa rfl (bF rfl rfl (by first | exact aZ (by omega) | rfl)) ?_
 refine aa rfl (ai rfl) (ag (ab ?_))
 refine cG (i + 1) ?_ ?_ ?_ ?_
 refine ⟨by omega, fun j hj => ?_⟩
 rcases Nat.lt_or_ge j i with q | q
 exact hI j q
 rw [show j = i by omega]; exact c6
 omega
 · repeat (first | exact aX | refine aV rfl ?_)
 exact inferInstance
 intro c4
 refine cj (bi (bi (co (ab (ae ?_)))))
 obtain rfl : i = k := by omega
 have he : f6 L f i w = 0 := Ck hb hI
 refine ah (am rfl (mK dC az rfl) ?_)
 rintro _ _ ⟨be, rfl, rfl⟩
 refine aa rfl (ac rfl) (aa rfl (aF rfl) ?_)
 refine aa rfl (al rfl lf rfl dh rfl (by first | exact Nat.zero_add _ | rfl)) ?_
 refine aa rfl (ao eU rfl (aA rfl)) ?_
 refine am rfl (dP (sz := 1) (by_ := 8) (info := Tryz.t3) dC (by kernel_rfl) rfl rfl rfl rfl (by decide) rfl rfl (uM (E := 3) (sz := 1) (a := some ⟨g, 0, none⟩) (c := c) (n := L.length)) (by rw [p0, Nat.mul_one]) (Cf L) (by simp only [maxLen]; omega) (by omega)) ?_
 rintro _ _ ⟨a3, c3, rfl, rfl⟩
 rw [List.nil_append, Nat.zero_add]
 refine qX (E := 3) (sz := 1) (a := a3) (c := c3) (n := L.length) (ys := L.flatMap eE) (fun hf3 => ?_)
 obtain ⟨g3, rfl⟩ := rk hf3 (by rw [← List.length_pos_iff, p0]; omega)
 refine aa rfl (ai rfl) (ag (ab (ae (ae (ah (aa rfl (ai rfl) (ag (ab (aW ?_)))))))))
 refine cT (fun j : Nat => j ≤ i) (fun j => [(0, .pointer (some ⟨b, 0, none⟩)), (1, .int .i64 f), (2, .int .i64 i), (3, .int .i64 w), (10, .slice (some ⟨g3, 0, none⟩) L.length c3), (11, .int .i64 j)]) (fun j => pt b (ax [.slice (some ⟨g, 0, none⟩) L.length c] 450) :: osl 3 1 (.slice (some ⟨g3, 0, none⟩) L.length c3) ((iS L f j w).flatMap eE) :: R) (fun j => i - j) 0 ?_ ?_ ?_ ?_
 exact Nat.zero_le _
 · repeat (first | exact aX | refine aV rfl ?_)
 rw [Cg]; exact inferInstance
 intro j hj
 refine ae (ae (ah (aa rfl (ac rfl) (aa rfl (ac rfl) (aa rfl (b0 rfl rfl) (ag (ab ?_)))))))
 refine aw rfl ?_ ?_
 intro c10
 refine aB (ab (ae (aW (ah (aa rfl (ac rfl) (aa rfl (ac rfl) (aa rfl (ac rfl) ?_)))))))
 refine aa rfl (bF rfl rfl (by rw [aZ (by omega)]; omega : IntKind.wrap .i64 ((f : Int) + (j : Int)) = ((f + j : Nat) : Int))) ?_
 refine aa rfl (ac rfl) ?_
 refine aa rfl (ce dC az rfl rfl rfl (by omega) (by first | exact Nat.zero_add _ | rfl)) ?_
 refine bD (AU (E := 3) (sz := 1) (n := L.length) (c := c3) (l' := (iS L f (j + 1) w).flatMap eE) az rfl rfl rfl (by rw [p0, s9]; omega) (by rw [Nat.mul_one, Ce, Ch (by omega)])) ?_
 rintro _ _ rfl
 refine ag (bH (ab (ah (aa rfl (ac rfl) ?_))))
 refine aa rfl (bF rfl rfl (by first | exact aZ (by omega) | rfl)) ?_
 refine aa rfl (ai rfl) (ag (ab ?_))
 refine cG (j + 1) ?_ ?_ ?_ ?_
 omega
 omega
 · repeat (first | exact aX | refine aV rfl ?_)
 exact inferInstance
 intro c10
 refine cj (bi (bi (co (ab (ae (ah (aa rfl (ac rfl) (aa rfl (ac rfl) (aa rfl (aF rfl) ?_)))))))))
 refine aa rfl (al rfl lf rfl dh rfl (by first | exact Nat.zero_add _ | rfl)) ?_
 refine bD (cm dh rfl rfl rfl (Nat.le_of_ble_eq_true rfl) SetL.eq) ?_
 rintro _ _ rfl
 refine ag (ab (ae (ah (aa rfl (ai rfl) (ag (ab (av (au (.inl rfl) (.cons (ak rfl) .nil) ?_))))))))
 obtain rfl : j = i := by omega
 rw [he, Ci he]
 exact ⟨_, ⟨rfl, rfl⟩, jG s9.symm rfl⟩
theorem Cl {c : Nat} (h : c ≤ 8) : mq .i64 1 (c : Int) = ((2 ^ c : Nat) : Int) := by
 have : c = 0 ∨ c = 1 ∨ c = 2 ∨ c = 3 ∨ c = 4 ∨ c = 5 ∨ c = 6 ∨ c = 7 ∨ c = 8 := by omega
 rcases this with rfl | rfl | rfl | rfl | rfl | rfl | rfl | rfl | rfl <;> rfl
theorem Cm {l cats : Int} : dK l cats = true ↔ 0 ≤ cats ∧ cats ≤ 8 ∧ 0 ≤ l ∧ l < ((2 ^ cats.toNat : Nat) : Int) := by
 simp only [dK, Bool.and_eq_true, decide_eq_true_iff, j0]
 constructor
 rintro ⟨⟨⟨h1, h2⟩, h3, h4⟩, h5⟩
 refine ⟨h1, h2, h3, ?_⟩
 obtain ⟨c, rfl⟩ : ∃ c : Nat, cats = (c : Int) := ⟨cats.toNat, by omega⟩
 obtain ⟨x, rfl⟩ : ∃ x : Nat, l = (x : Int) := ⟨l.toNat, by omega⟩
 rw [ol (k := .i64) (a := x) (s := c) (by show c ≤ 64; omega)] at h5
 have h6 : x / 2 ^ c = 0 := by omega
 have := (Nat.div_eq_zero_iff_lt (Nat.two_pow_pos c)).1 h6
 rw [Int.toNat_natCast]; omega
 rintro ⟨h1, h2, h3, h4⟩
 obtain ⟨c, rfl⟩ : ∃ c : Nat, cats = (c : Int) := ⟨cats.toNat, by omega⟩
 obtain ⟨x, rfl⟩ : ∃ x : Nat, l = (x : Int) := ⟨l.toNat, by omega⟩
 rw [Int.toNat_natCast] at h4
 have h5 : x < 2 ^ c := by omega
 have h6 : 2 ^ c ≤ 2 ^ 8 := Nat.pow_le_pow_right (by decide) (by omega)
 refine ⟨⟨⟨h1, h2⟩, h3, by omega⟩, ?_⟩
 rw [ol (k := .i64) (a := x) (s := c) (by show c ≤ 64; omega), Nat.div_eq_of_lt h5]; rfl
theorem sb (l cats : Int) : aC Tryz.prog W0 294 [.int .i64 l, .int .i64 cats] R (fun v B => v = .bool (dK l cats) ∧ B = R) := by
 have hv := Cm (l := l) (cats := cats)
 refine aG func294 ntmps294 rfl rfl ?_
 refine ae (ah (aa rfl (ai rfl) (ag (ab (ae (ah (aa rfl (ac rfl) (aa rfl (cK rfl rfl) (aa rfl (ac rfl) ?_)))))))))
 refine cJ rfl rfl rfl ?_ ?_
 intro g1_3
 refine aa rfl (ac rfl) (ar rfl rfl (aa rfl (iH rfl rfl) (aa rfl (aY rfl rfl) (aa rfl (ac rfl) ?_))))
 refine cJ rfl rfl rfl ?_ ?_
 intro g1_7
 refine aa rfl (ac rfl) (ar rfl rfl (aa rfl (cK rfl rfl) (aa rfl (aY rfl rfl) (aa rfl (ac rfl) ?_))))
 refine cJ rfl rfl rfl ?_ ?_
 intro g1_11
 obtain ⟨k, rfl⟩ : ∃ k : Nat, cats = (k : Int) := ⟨cats.toNat, by omega⟩
 have hp := Nat.two_pow_pos k
 rw [Int.toNat_natCast] at hv
 refine aa rfl (ac rfl) (ar rfl rfl (aa rfl (ac rfl) (ar rfl rfl ?_)))
 refine aa rfl (tQ rfl rfl (by omega) (Cl (by omega))) ?_
 refine ar rfl rfl (aa rfl (b0 rfl rfl) (aa rfl (aY rfl rfl) (aa rfl (ai rfl) (ag (ab (av (au (.inl rfl) (.cons (ak rfl) .nil) ?_)))))))
 refine ⟨_, ⟨?_, rfl⟩, inferInstance⟩
 refine congrArg Value.bool ?_
 rw [Bool.eq_iff_iff, hv]
 first
   | (rw [decide_eq_true_iff]; constructor
      · intro q; omega
      · intro q; omega)
   | (constructor
      · intro q; first | omega | (cases q)
      intro q; omega)
 intro g1_11
 refine ap rfl rfl rfl rfl (ap rfl rfl rfl rfl (ap rfl rfl rfl rfl (aa rfl (aM rfl rfl) (aa rfl (ai rfl) (ag (ab (av (au (.inl rfl) (.cons (ak rfl) .nil) ?_))))))))
 refine ⟨_, ⟨?_, rfl⟩, inferInstance⟩
 refine congrArg Value.bool ?_
 rw [Bool.eq_iff_iff, hv]
 first
   | (rw [decide_eq_true_iff]; constructor
      · intro q; omega
      · intro q; omega)
   | (constructor
      · intro q; first | omega | (cases q)
      intro q; omega)
 intro g1_7
 refine ap rfl rfl rfl rfl (aa rfl (aM rfl rfl) (aa rfl (ac rfl) (ap rfl rfl rfl rfl (ap rfl rfl rfl rfl (ap rfl rfl rfl rfl (ap rfl rfl rfl rfl (aa rfl (aM rfl rfl) (aa rfl (ai rfl) (ag (ab (av (au (.inl rfl) (.cons (ak rfl) .nil) ?_))))))))))))
 refine ⟨_, ⟨?_, rfl⟩, inferInstance⟩
 refine congrArg Value.bool ?_
 rw [Bool.eq_iff_iff, hv]
 first
   | (rw [decide_eq_true_iff]; constructor
      · intro q; omega
      · intro q; omega)
   | (constructor
      · intro q; first | omega | (cases q)
      intro q; omega)
 intro g1_3
 refine ap rfl rfl rfl rfl (aa rfl (aM rfl rfl) (aa rfl (ac rfl) (ap rfl rfl rfl rfl (ap rfl rfl rfl rfl (aa rfl (aM rfl rfl) (aa rfl (ac rfl) (ap rfl rfl rfl rfl (ap rfl rfl rfl rfl (ap rfl rfl rfl rfl (ap rfl rfl rfl rfl (aa rfl (aM rfl rfl) (aa rfl (ai rfl) (ag (ab (av (au (.inl rfl) (.cons (ak rfl) .nil) ?_))))))))))))))))
 refine ⟨_, ⟨?_, rfl⟩, inferInstance⟩
 refine congrArg Value.bool ?_
 rw [Bool.eq_iff_iff, hv]
 first
   | (rw [decide_eq_true_iff]; constructor
      · intro q; omega
      · intro q; omega)
   | (constructor
      · intro q; first | omega | (cases q)
      intro q; omega)
theorem nt (c : Cfg) (i : Int) : aC Tryz.prog W0 190 [.agg (bU c).toArray, .int .i64 i] R (fun v B => v = .bool (e8 c i) ∧ B = R) := by
 refine aG func190 ntmps190 rfl rfl ?_
 refine ae (ah (am rfl (bJ rfl) ?_))
 rintro _ _ ⟨b2, rfl, rfl⟩
 refine aa rfl (ai rfl) (ag (ab (ae (ah (aa rfl (ac rfl) (aa rfl (cK rfl rfl) (aa rfl (ac rfl) ?_)))))))
 refine cJ rfl rfl rfl ?_ ?_
 intro g1_3
 refine aa rfl (ac rfl) (ar rfl rfl ?_)
 refine aa rfl (al rfl bw rfl dD rfl (by first | exact Nat.zero_add _ | rfl)) ?_
 refine ar rfl rfl (aa rfl (ao dN rfl (aA rfl)) ?_)
 refine ar rfl rfl (aa rfl (bu dq rfl) (ar rfl rfl (aa rfl (b0 rfl rfl) (aa rfl (aY rfl rfl) (aa rfl (ai rfl) (ag (ab (av (au (.inl rfl) (.cons (ak rfl) .nil) ?_)))))))))
 refine ⟨_, ⟨?_, rfl⟩, inferInstance⟩
 refine congrArg Value.bool ?_
 rw [Bool.eq_iff_iff, e8, decide_eq_true_iff]
 first
   | (rw [decide_eq_true_iff]; constructor
      · intro q; omega
      · intro q; omega)
   | (constructor
      · intro q; first | omega | (cases q)
      intro q; omega)
 intro g1_3
 refine ap rfl rfl rfl rfl (ap rfl rfl rfl rfl (ap rfl rfl rfl rfl (ap rfl rfl rfl rfl (aa rfl (aM rfl rfl) (aa rfl (ai rfl) (ag (ab (av (au (.inl rfl) (.cons (ak rfl) .nil) ?_)))))))))
 refine ⟨_, ⟨?_, rfl⟩, inferInstance⟩
 refine congrArg Value.bool ?_
 rw [Bool.eq_iff_iff, e8, decide_eq_true_iff]
 first
   | (rw [decide_eq_true_iff]; constructor
      · intro q; omega
      · intro q; omega)
   | (constructor
      · intro q; first | omega | (cases q)
      intro q; omega)
theorem nu {w : Nat → Bool} {i : Nat} (h : ∀ j, j < i → w j = false) (h2 : w i = false) : ∀ j, j < i + 1 → w j = false := fun j hj => by
 rcases Nat.lt_or_ge j i with q | q
 exact h j q
 rw [show j = i by omega]; exact h2
theorem Cn (W0 : World) (R : List HP) (c : Cfg) (h : CfOk W0 c) :
    aC Tryz.prog W0 185 [.agg (bU c).toArray] R (fun v B => ∃ r, v = .tuple #[.bool (fw c), .int .i64 r] ∧ B = R) := by
 refine aG func185 ntmps185 rfl rfl ?_
 refine ae (ah (am rfl (bJ rfl) ?_))
 rintro _ _ ⟨b1, rfl, rfl⟩
 refine aa rfl (ai rfl) (aa rfl (ai rfl) (ag (ab (ae (ae (ah ?_))))))
 refine aa rfl (al rfl bw rfl dD rfl (by first | exact Nat.zero_add _ | rfl)) ?_
 refine aa rfl (ao dN rfl (aA rfl)) ?_
 refine aa rfl (bu dq rfl) (aa rfl (b0 rfl rfl) (aa rfl (ac rfl) ?_))
 refine bC rfl rfl rfl ?_ ?_
 intro g1_5
 refine ap rfl rfl rfl rfl (ap rfl rfl rfl rfl (ap rfl rfl rfl rfl (aa rfl (aY rfl rfl) (ag (ab (cg rfl (ae (ah (aa rfl (ai rfl) (aa rfl (ai rfl) (ag (ab (av (aE (au (.inl rfl) (.cons (ak rfl) (.cons (ak rfl) .nil)) ?_)))))))))))))))
 rw [fw, decide_eq_true (by omega), Bool.true_or]
 exact ⟨_, ⟨0, rfl, rfl⟩, inferInstance⟩
 intro g1_5
 refine aa rfl (al rfl bw rfl dD rfl (by first | exact Nat.zero_add _ | rfl)) ?_
 refine ar rfl rfl (aa rfl (ao dN rfl (aA rfl)) ?_)
 refine ar rfl rfl (aa rfl (bu dq rfl) (ar rfl rfl (aa rfl (cy rfl rfl) (aa rfl (aM rfl rfl) (ag (ab ?_))))))
 refine aw rfl ?_ ?_
 intro c1
 refine ae (ah (aa rfl (ai rfl) (aa rfl (ai rfl) (ag (ab (av (aE (au (.inl rfl) (.cons (ak rfl) (.cons (ak rfl) .nil)) ?_))))))))
 rw [fw, decide_eq_true (by omega), Bool.true_or]
 exact ⟨_, ⟨0, rfl, rfl⟩, inferInstance⟩
 intro c1
 refine aB (ab (ae (ae (ah (aa rfl (ai rfl) (ag (ab (aW ?_))))))))
 refine cT (fun i : Nat => i ≤ c.gl.length ∧ (∀ j, j < i → j4 c.cats (c.gl.getD j (0, 0, 0)) = false)) (fun i => [(1, .pointer (some ⟨b1, 0, none⟩)), (4, .int .i64 i)]) (fun _ => pt b1 (dd c) :: R) (fun i => c.gl.length - i) 0 ?_ ?_ ?_ ?_
 exact ⟨Nat.zero_le _, fun j hj => absurd hj (Nat.not_lt_zero _)⟩
 · repeat (first | exact aX | refine aV rfl ?_)
 exact inferInstance
 intro i ⟨hi, hI⟩
 refine ae (ae (ah (aa rfl (ac rfl) ?_)))
 refine aa rfl (al rfl bw rfl dD rfl (by first | exact Nat.zero_add _ | rfl)) ?_
 refine aa rfl (ao dN rfl (aA rfl)) ?_
 refine aa rfl (bu dq rfl) (aa rfl (b0 rfl rfl) (ag (ab ?_)))
 refine aw rfl ?_ ?_
 intro c4
 refine aB (ab (ae (aW (ae ?_))))
 have hi1 : i < c.gl.length := by omega
 obtain ⟨g, o, hga, hc⟩ := (h.g []).at_ hi1
 obtain ⟨x, hx⟩ : ∃ x, c.gl[i] = x := ⟨_, rfl⟩
 have hgd : c.gl.getD i (0, 0, 0) = x := by simp [List.getD, hi1, hx]
 rw [hx] at hc
 have hbad : j4 c.cats x = true → fw c = true := fun q => by
  rw [fw, lM (w := fun i => j4 c.cats (c.gl.getD i (0, 0, 0))) hi1 (by rw [hgd]; exact q), Bool.or_true]
 have hgood := fun q => nu (w := fun i => j4 c.cats (c.gl.getD i (0, 0, 0))) hI (show j4 c.cats (c.gl.getD i (0, 0, 0)) = false by rw [hgd]; exact q)
 obtain ⟨v, hv⟩ : ∃ v, dK x.1 c.cats = v := ⟨_, rfl⟩
 have hno := n0 (cats := c.cats) (g := x)
 have hye := jV (cats := c.cats) (g := x)
 rw [hv] at hno hye
 refine ah ?_
 refine aa rfl (al rfl bw rfl dD rfl (by first | exact Nat.zero_add _ | rfl)) ?_
 refine aa rfl (ao dN rfl (aA rfl)) ?_
 refine aa rfl (ac rfl) ?_
 refine aa rfl (dH dq eH rfl hga rfl rfl hi1 (by first | exact Nat.zero_add _ | rfl)) ?_
 refine aa rfl (cV t7 eH rfl hc.weak rfl) ?_
 refine am rfl (cM mc) ?_
 rintro _ _ ⟨bx, rfl, rfl⟩
 refine bD (cD eH rfl rfl rfl rfl rfl) ?_
 rintro _ _ rfl
 refine ag (ab (ae (ah ?_)))
 refine aa rfl (al rfl dV rfl az rfl (by first | exact Nat.zero_add _ | rfl)) ?_
 refine aa rfl (ao aQ rfl (aA rfl)) ?_
 refine aa rfl (al rfl bw rfl az rfl (by first | exact Nat.zero_add _ | rfl)) ?_
 refine aa rfl (ao aQ rfl (aA rfl)) ?_
 refine am rfl (aU xW rfl (sb x.1 c.cats)) ?_
 rintro _ B_ ⟨rfl, hB_⟩
 obtain rfl := hB_.symm
 rw [hv]
 refine aa rfl (bM rfl) (aa rfl (ac rfl) ?_)
 refine bC rfl rfl rfl ?_ ?_
 intro g7_7
 refine ap rfl rfl rfl rfl (ap rfl rfl rfl rfl (aa rfl (aY rfl rfl) (aa rfl (ac rfl) (ap rfl rfl rfl rfl (ap rfl rfl rfl rfl (ap rfl rfl rfl rfl (aa rfl (aY rfl rfl) (aa rfl (ac rfl) (ap rfl rfl rfl rfl (ap rfl rfl rfl rfl (ap rfl rfl rfl rfl (aa rfl (aY rfl rfl) (aa rfl (ac rfl) (ap rfl rfl rfl rfl (ap rfl rfl rfl rfl (ap rfl rfl rfl rfl (ap rfl rfl rfl rfl (ap rfl rfl rfl rfl (ap rfl rfl rfl rfl (aa rfl (aY rfl rfl) (ag (ab (cg rfl ?_)))))))))))))))))))))))
 refine ae (ah (aa rfl (ac rfl) (aa rfl (ai rfl) (aa rfl (ai rfl) (ag (ab (av (bj (aE (aE (bj (aE (au (.inl rfl) (.cons (ak rfl) (.cons (ak rfl) .nil)) ?_)))))))))))))
 rw [hbad (hye (by first | (intro q; omega) | (intro q; simp_all)))]
 exact ⟨_, ⟨_, rfl, rfl⟩, inferInstance⟩
 intro g7_7
 refine aa rfl (al rfl dV rfl az rfl (by first | exact Nat.zero_add _ | rfl)) ?_
 refine ar rfl rfl (aa rfl (ao aQ rfl (aA rfl)) ?_)
 refine ar rfl rfl (aa rfl (b0 rfl rfl) (aa rfl (aM rfl rfl) (aa rfl (ac rfl) ?_)))
 refine bC rfl rfl rfl ?_ ?_
 intro g7_12
 refine ap rfl rfl rfl rfl (ap rfl rfl rfl rfl (aa rfl (aY rfl rfl) (aa rfl (ac rfl) (ap rfl rfl rfl rfl (ap rfl rfl rfl rfl (ap rfl rfl rfl rfl (aa rfl (aY rfl rfl) (aa rfl (ac rfl) (ap rfl rfl rfl rfl (ap rfl rfl rfl rfl (ap rfl rfl rfl rfl (ap rfl rfl rfl rfl (ap rfl rfl rfl rfl (ap rfl rfl rfl rfl (aa rfl (aY rfl rfl) (ag (ab (cg rfl (ae (ah (aa rfl (ac rfl) (aa rfl (ai rfl) (aa rfl (ai rfl) ?_)))))))))))))))))))))))
 refine ag (ab (av (bj (aE (aE (bj (aE (au (.inl rfl) (.cons (ak rfl) (.cons (ak rfl) .nil)) ?_))))))))
 rw [hbad (hye (by first | (intro q; omega) | (intro q; simp_all)))]
 exact ⟨_, ⟨_, rfl, rfl⟩, inferInstance⟩
 intro g7_12
 refine aa rfl (al rfl dV rfl az rfl (by first | exact Nat.zero_add _ | rfl)) ?_
 refine ar rfl rfl (aa rfl (ao aQ rfl (aA rfl)) ?_)
 refine ar rfl rfl (aa rfl (cy rfl rfl) (aa rfl (aM rfl rfl) (aa rfl (ac rfl) ?_)))
 refine bC rfl rfl rfl ?_ ?_
 intro g7_17
 refine ap rfl rfl rfl rfl (ap rfl rfl rfl rfl (aa rfl (aY rfl rfl) (aa rfl (ac rfl) (ap rfl rfl rfl rfl (ap rfl rfl rfl rfl (ap rfl rfl rfl rfl (ap rfl rfl rfl rfl (ap rfl rfl rfl rfl (ap rfl rfl rfl rfl (aa rfl (aY rfl rfl) (ag (ab (cg rfl (ae (ah (aa rfl (ac rfl) (aa rfl (ai rfl) (aa rfl (ai rfl) (ag (ab (av (bj (aE ?_)))))))))))))))))))))))
 refine aE (bj (aE (au (.inl rfl) (.cons (ak rfl) (.cons (ak rfl) .nil)) ?_)))
 rw [hbad (hye (by first | (intro q; omega) | (intro q; simp_all)))]
 exact ⟨_, ⟨_, rfl, rfl⟩, inferInstance⟩
 intro g7_17
 refine aa rfl (al rfl dV rfl az rfl (by first | exact Nat.zero_add _ | rfl)) ?_
 refine ar rfl rfl (aa rfl (ao aQ rfl (aA rfl)) ?_)
 refine ar rfl rfl (aa rfl (b0 rfl rfl) (aa rfl (aM rfl rfl) (aa rfl (ac rfl) ?_)))
 refine bC rfl rfl rfl ?_ ?_
 intro g7_22
 refine ap rfl rfl rfl rfl (ap rfl rfl rfl rfl (ap rfl rfl rfl rfl (ap rfl rfl rfl rfl (ap rfl rfl rfl rfl (aa rfl (aY rfl rfl) (ag (ab (cg rfl (ae (ah (aa rfl (ac rfl) (aa rfl (ai rfl) (aa rfl (ai rfl) (ag (ab (av (bj (aE (aE (bj (aE (au (.inl rfl) (.cons (ak rfl) (.cons (ak rfl) .nil)) ?_))))))))))))))))))))))
 rw [hbad (hye (by first | (intro q; omega) | (intro q; simp_all)))]
 exact ⟨_, ⟨_, rfl, rfl⟩, inferInstance⟩
 intro g7_22
 refine aa rfl (al rfl dV rfl az rfl (by first | exact Nat.zero_add _ | rfl)) ?_
 refine ar rfl rfl (aa rfl (ao aQ rfl (aA rfl)) ?_)
 refine ar rfl rfl ?_
 refine aa rfl (al rfl dV rfl az rfl (by first | exact Nat.zero_add _ | rfl)) ?_
 refine ar rfl rfl (aa rfl (ao aQ rfl (aA rfl)) ?_)
 refine ar rfl rfl ?_
 refine aa rfl (dX rfl rfl (aZ (by omega))) ?_
 refine ar rfl rfl (aa rfl (cy rfl rfl) (aa rfl (aM rfl rfl) (ag (ab ?_))))
 refine aw rfl ?_ ?_
 intro c7
 refine ae (ah (aa rfl (ac rfl) (aa rfl (ai rfl) (aa rfl (ai rfl) (ag (ab (av (bj (aE (aE (bj (aE (au (.inl rfl) (.cons (ak rfl) (.cons (ak rfl) .nil)) ?_)))))))))))))
 rw [hbad (hye (by first | (intro q; omega) | (intro q; simp_all)))]
 exact ⟨_, ⟨_, rfl, rfl⟩, inferInstance⟩
 intro c7
 refine aB (bH (ab (ah (aa rfl (ac rfl) ?_))))
 refine aa rfl (bF rfl rfl (by first | exact aZ (by omega) | rfl)) ?_
 refine aa rfl (ai rfl) (ag (ab ?_))
 refine cG (i + 1) ?_ ?_ ?_ ?_
 refine ⟨by omega, hgood (hno.2 ⟨by simp_all, by omega, by omega, by omega, by omega⟩)⟩
 omega
 · repeat (first | exact aX | refine aV rfl ?_)
 exact inferInstance
 intro c4
 refine cj (bi (bi (co (ab (ae (ah (aa rfl (ai rfl) (aa rfl (ai rfl) (ag (ab (av (au (.inl rfl) (.cons (ak rfl) (.cons (ak rfl) .nil)) ?_))))))))))))
 obtain rfl : i = c.gl.length := by omega
 rw [fw, decide_eq_false (by omega), Bool.false_or, mZ hI]
 exact ⟨_, ⟨0, rfl, rfl⟩, inferInstance⟩
theorem Co (W0 : World) (R : List HP) (c : Cfg) (h : CfOk W0 c) :
    aC Tryz.prog W0 186 [.agg (bU c).toArray] R (fun v B => ∃ r, v = .tuple #[.bool (gt c), .int .i64 r] ∧ B = R) := by
 refine aG func186 ntmps186 rfl rfl ?_
 refine ae (ah (am rfl (bJ rfl) ?_))
 rintro _ _ ⟨b1, rfl, rfl⟩
 refine aa rfl (ai rfl) (aa rfl (ai rfl) (ag (ab (ae (ae (ah ?_))))))
 refine aa rfl (al rfl bw rfl iU rfl (by first | exact Nat.zero_add _ | rfl)) ?_
 refine aa rfl (ao ki rfl (aA rfl)) ?_
 refine aa rfl (bu gi rfl) (aa rfl (cy rfl rfl) (ag (ab ?_)))
 refine aw rfl ?_ ?_
 intro c1
 refine ae (ah (aa rfl (ai rfl) (aa rfl (ai rfl) (ag (ab (av (aE (au (.inl rfl) (.cons (ak rfl) (.cons (ak rfl) .nil)) ?_))))))))
 rw [gt, decide_eq_true (by omega), Bool.true_or]
 exact ⟨_, ⟨0, rfl, rfl⟩, inferInstance⟩
 intro c1
 refine aB (ab (ae (ah ?_)))
 refine am rfl (aU call194 rfl (w9 32 (by decide))) ?_
 rintro _ B_ ⟨bt, rfl, hB_⟩
 obtain rfl := hB_.symm
 refine aa rfl (ac rfl) (aa rfl (aS rfl rfl) (aa rfl (aS rfl rfl) (aa rfl (ai rfl) (aa rfl (ai rfl) (ag (ab (ae (ae (ah (aa rfl (ai rfl) (ag (ab (aW ?_)))))))))))))
 refine cT (fun X : Nat × List Int => X.1 ≤ c.rl.length ∧ (∀ j, j < X.1 → j6 c j = false) ∧ X.2.length = 32 ∧ RT (eP c X.1) X.2) (fun X => [(1, .pointer (some ⟨b1, 0, none⟩)), (4, .pointer (some ⟨bt, 0, none⟩)), (6, .int .i64 X.1)]) (fun X => j8 bt X.2 :: pt b1 (dd c) :: R) (fun X => c.rl.length - X.1) (0, List.replicate 32 (-1)) ?_ ?_ ?_ ?_
 exact ⟨Nat.zero_le _, fun j hj => absurd hj (Nat.not_lt_zero _), rfl, vz 32⟩
 · repeat (first | exact aX | refine aV rfl ?_)
 exact inferInstance
 intro ⟨i, L⟩ ⟨hi, hI, hL, hRT⟩
 dsimp only at hi hI hL hRT ⊢
 refine ae (ae (ah (aa rfl (ac rfl) ?_)))
 refine aa rfl (al rfl bw rfl iU rfl (by first | exact Nat.zero_add _ | rfl)) ?_
 refine aa rfl (ao ki rfl (aA rfl)) ?_
 refine aa rfl (bu gi rfl) (aa rfl (b0 rfl rfl) (ag (ab ?_)))
 refine aw rfl ?_ ?_
 intro c5
 refine aB (ab (ae (aW (ae ?_))))
 have hi1 : i < c.rl.length := by omega
 obtain ⟨g, o, hga, hc⟩ := (h.r []).at_ hi1
 obtain ⟨x, hx⟩ : ∃ x, c.rl[i] = x := ⟨_, rfl⟩
 have hA : gr c i = x := by simp [gr, List.getD, hi1, hx]
 rw [hx] at hc
 have hT : eP c (i + 1) = if dK x.1 c.cats = true then eh (eP c i) 32 x.2.1 x.2.2 i else eP c i := by rw [eP, hA]
 have hW : j6 c i = !(dK x.1 c.cats && decide (dB (eP c i) 32 x.2.1 x.2.2 i = 0)) := by rw [j6, hA]
 have hE := rK hRT (n := 32) (by rw [hL]; rfl) x.2.1 x.2.2 i
 have hS := vy hRT (n := 32) (by rw [hL]; rfl) (by decide) x.2.1 x.2.2 i
 rw [← hE] at hW
 have hbad : j6 c i = true → gt c = true := fun q => by rw [gt, lM hi1 q, Bool.or_true]
 obtain ⟨v, hv⟩ : ∃ v, dK x.1 c.cats = v := ⟨_, rfl⟩
 rw [hv] at hT hW
 refine ah ?_
 refine aa rfl (al rfl bw rfl iU rfl (by first | exact Nat.zero_add _ | rfl)) ?_
 refine aa rfl (ao ki rfl (aA rfl)) ?_
 refine aa rfl (ac rfl) ?_
 refine aa rfl (dH gi iB rfl hga rfl rfl hi1 (by first | exact Nat.zero_add _ | rfl)) ?_
 refine aa rfl (cV xJ iB rfl hc.weak rfl) ?_
 refine am rfl (cM pL) ?_
 rintro _ _ ⟨bx, rfl, rfl⟩
 refine bD (cD iB rfl rfl rfl rfl rfl) ?_
 rintro _ _ rfl
 refine ag (ab (ae (ah ?_)))
 refine aa rfl (al rfl ie rfl az rfl (by first | exact Nat.zero_add _ | rfl)) ?_
 refine aa rfl (ao aQ rfl (aA rfl)) ?_
 refine aa rfl (al rfl bw rfl az rfl (by first | exact Nat.zero_add _ | rfl)) ?_
 refine aa rfl (ao aQ rfl (aA rfl)) ?_
 refine am rfl (aU xW rfl (sb x.1 c.cats)) ?_
 rintro _ B_ ⟨rfl, hB_⟩
 obtain rfl := hB_.symm
 rw [hv]
 refine aa rfl (bM rfl) (aa rfl (ac rfl) ?_)
 refine bC rfl rfl rfl ?_ ?_
 · intro g8_7
   refine ap rfl rfl rfl rfl (ap rfl rfl rfl rfl (ap rfl rfl rfl rfl (ap rfl rfl rfl rfl (ap rfl rfl rfl rfl (ap rfl rfl rfl rfl (ap rfl rfl rfl rfl (aa rfl (aY rfl rfl) (ag (ab (cg rfl (ae (ah (aa rfl (ac rfl) (aa rfl (ai rfl) (aa rfl (ai rfl) (ag (ab (av (bj (aE (aE (bj (aE ?_)))))))))))))))))))))))
   refine au (.inl rfl) (.cons (ak rfl) (.cons (ak rfl) .nil)) ?_
   rw [hbad (by rw [hW]; first | (simp_all; done) | (rw [decide_eq_false (by omega), Bool.and_false]; rfl))]
   exact ⟨_, ⟨_, rfl, rfl⟩, inferInstance⟩
 intro g8_7
 refine aa rfl (ac rfl) (ar rfl rfl ?_)
 refine aa rfl (al rfl ie rfl az rfl (by first | exact Nat.zero_add _ | rfl)) ?_
 refine ar rfl rfl (aa rfl (ao aQ rfl (aA rfl)) ?_)
 refine ar rfl rfl ?_
 refine aa rfl (al rfl ie rfl az rfl (by first | exact Nat.zero_add _ | rfl)) ?_
 refine ar rfl rfl (aa rfl (ao aQ rfl (aA rfl)) ?_)
 refine ar rfl rfl (aa rfl (ac rfl) (ar rfl rfl ?_))
 refine am rfl (bn call196 rfl (wa W0 _ bt L (by omega) x.2.1 x.2.2 i)) ?_
 rintro _ B_ ⟨rfl, hB_⟩
 obtain rfl := hB_.symm
 refine ar rfl rfl (aa rfl (bI rfl rfl) (aa rfl (aM rfl rfl) (ag (ab ?_))))
 refine aw rfl ?_ ?_
 · intro c8
   refine ae (ah (aa rfl (ac rfl) (aa rfl (ai rfl) (aa rfl (ai rfl) (ag (ab (av (bj (aE (aE (bj (aE (au (.inl rfl) (.cons (ak rfl) (.cons (ak rfl) .nil)) ?_)))))))))))))
   rw [hbad (by rw [hW]; first | (simp_all; done) | (rw [decide_eq_false (by omega), Bool.and_false]; rfl))]
   exact ⟨_, ⟨_, rfl, rfl⟩, inferInstance⟩
 intro c8
 refine aB (bH (ab ?_))
 have hv1 : v = true := by first | assumption | simp_all
 have hz : f6 L x.2.1 x.2.2 i = 0 := by omega
 rw [hv1, if_pos rfl] at hT
 rw [hv1, hz] at hW
 refine ah (aa rfl (ac rfl) ?_)
 refine aa rfl (bF rfl rfl (by first | exact aZ (by omega) | rfl)) ?_
 refine aa rfl (ai rfl) (ag (ab ?_))
 refine cG (i + 1, gH L x.2.1 x.2.2 i) ?_ ?_ ?_ ?_
 exact ⟨by omega, nu hI hW, rJ.trans hL, by rw [hT]; exact hS⟩
 omega
 · repeat (first | exact aX | refine aV rfl ?_)
 exact inferInstance
 intro c5
 refine cj (bi (bi (co (ab (ae (ah (aa rfl (ai rfl) (aa rfl (ai rfl) (ag (ab (av (au (.inl rfl) (.cons (ak rfl) (.cons (ak rfl) .nil)) ?_))))))))))))
 obtain rfl : i = c.rl.length := by omega
 rw [gt, decide_eq_false (by omega), Bool.false_or, mZ hI]
 exact ⟨_, ⟨0, rfl, rfl⟩, inferInstance⟩
theorem Cp (W0 : World) (R : List HP) (c : Cfg) (h : CfOk W0 c) :
    aC Tryz.prog W0 189 [.agg (bU c).toArray] R (fun v B => ∃ r, v = .tuple #[.bool (i5 c), .int .i64 r] ∧ B = R) := by
 refine aG func189 ntmps189 rfl rfl ?_
 refine ae (ah (am rfl (bJ rfl) ?_))
 rintro _ _ ⟨b1, rfl, rfl⟩
 refine aa rfl (ai rfl) (aa rfl (ai rfl) (ag (ab (ae (ae (ah ?_))))))
 refine aa rfl (al rfl bw rfl jr rfl (by first | exact Nat.zero_add _ | rfl)) ?_
 refine aa rfl (ao kh rfl (aA rfl)) ?_
 refine aa rfl (bu js rfl) (aa rfl (b0 rfl rfl) (aa rfl (ac rfl) ?_))
 refine bC rfl rfl rfl ?_ ?_
 intro g1_5
 refine ap rfl rfl rfl rfl (ap rfl rfl rfl rfl (ap rfl rfl rfl rfl (aa rfl (aY rfl rfl) (ag (ab (cg rfl (ae (ah (aa rfl (ai rfl) (aa rfl (ai rfl) (ag (ab (av (aE (au (.inl rfl) (.cons (ak rfl) (.cons (ak rfl) .nil)) ?_)))))))))))))))
 rw [i5, decide_eq_true (by omega), Bool.true_or]
 exact ⟨_, ⟨0, rfl, rfl⟩, inferInstance⟩
 intro g1_5
 refine aa rfl (al rfl bw rfl jr rfl (by first | exact Nat.zero_add _ | rfl)) ?_
 refine ar rfl rfl (aa rfl (ao kh rfl (aA rfl)) ?_)
 refine ar rfl rfl (aa rfl (bu js rfl) (ar rfl rfl (aa rfl (cy rfl rfl) (aa rfl (aM rfl rfl) (ag (ab ?_))))))
 refine aw rfl ?_ ?_
 intro c1
 refine ae (ah (aa rfl (ai rfl) (aa rfl (ai rfl) (ag (ab (av (aE (au (.inl rfl) (.cons (ak rfl) (.cons (ak rfl) .nil)) ?_))))))))
 rw [i5, decide_eq_true (by omega), Bool.true_or]
 exact ⟨_, ⟨0, rfl, rfl⟩, inferInstance⟩
 intro c1
 refine aB (ab (ae (ae (ah (aa rfl (ai rfl) (ag (ab (aW ?_))))))))
 refine cT (fun i : Nat => i ≤ c.sl.length ∧ (∀ j, j < i → iO c (c.sl.getD j (0, 0)) = false)) (fun i => [(1, .pointer (some ⟨b1, 0, none⟩)), (4, .int .i64 i)]) (fun _ => pt b1 (dd c) :: R) (fun i => c.sl.length - i) 0 ?_ ?_ ?_ ?_
 exact ⟨Nat.zero_le _, fun j hj => absurd hj (Nat.not_lt_zero _)⟩
 · repeat (first | exact aX | refine aV rfl ?_)
 exact inferInstance
 intro i ⟨hi, hI⟩
 refine ae (ae (ah (aa rfl (ac rfl) ?_)))
 refine aa rfl (al rfl bw rfl jr rfl (by first | exact Nat.zero_add _ | rfl)) ?_
 refine aa rfl (ao kh rfl (aA rfl)) ?_
 refine aa rfl (bu js rfl) (aa rfl (b0 rfl rfl) (ag (ab ?_)))
 refine aw rfl ?_ ?_
 intro c4
 refine aB (ab (ae (aW (ae ?_))))
 have hi1 : i < c.sl.length := by omega
 obtain ⟨g, o, hga, hc⟩ := (h.s []).at_ hi1
 obtain ⟨x, hx⟩ : ∃ x, c.sl[i] = x := ⟨_, rfl⟩
 have hgd : c.sl.getD i (0, 0) = x := by simp [List.getD, hi1, hx]
 rw [hx] at hc
 have hbad : iO c x = true → i5 c = true := fun q => by
  rw [i5, lM (w := fun i => iO c (c.sl.getD i (0, 0))) hi1 (by rw [hgd]; exact q), Bool.or_true]
 have hgood := fun q => nu (w := fun i => iO c (c.sl.getD i (0, 0))) hI (show iO c (c.sl.getD i (0, 0)) = false by rw [hgd]; exact q)
 obtain ⟨v, hv⟩ : ∃ v, e8 c x.1 = v := ⟨_, rfl⟩
 have hW : iO c x = !(v && decide (1 ≤ x.2 ∧ x.2 ≤ 32)) := by rw [iO, hv]
 refine ah ?_
 refine aa rfl (al rfl bw rfl jr rfl (by first | exact Nat.zero_add _ | rfl)) ?_
 refine aa rfl (ao kh rfl (aA rfl)) ?_
 refine aa rfl (ac rfl) ?_
 refine aa rfl (dH js md rfl hga rfl rfl hi1 (by first | exact Nat.zero_add _ | rfl)) ?_
 refine aa rfl (cV isAgg87 md rfl hc.weak rfl) ?_
 refine am rfl (cM t8) ?_
 rintro _ _ ⟨bx, rfl, rfl⟩
 refine bD (cD md rfl rfl rfl rfl rfl) ?_
 rintro _ _ rfl
 refine ag (ab (ae (ah (aa rfl (cp cn bN rfl rfl) ?_))))
 refine aa rfl (al rfl l6 rfl az rfl (by first | exact Nat.zero_add _ | rfl)) ?_
 refine aa rfl (ao aQ rfl (aA rfl)) ?_
 refine am rfl (aU pO rfl (nt c x.1)) ?_
 rintro _ B_ ⟨rfl, hB_⟩
 obtain rfl := hB_.symm
 rw [hv]
 refine aa rfl (bM rfl) (aa rfl (ac rfl) ?_)
 refine bC rfl rfl rfl ?_ ?_
 · intro g7_6
   refine ap rfl rfl rfl rfl (ap rfl rfl rfl rfl (aa rfl (aY rfl rfl) (aa rfl (ac rfl) (ap rfl rfl rfl rfl (ap rfl rfl rfl rfl (ap rfl rfl rfl rfl (aa rfl (aY rfl rfl) (ag (ab (cg rfl (ae (ah (aa rfl (ac rfl) (aa rfl (ai rfl) (aa rfl (ai rfl) (ag (ab (av (bj (aE (aE (bj (aE ?_)))))))))))))))))))))))
   refine au (.inl rfl) (.cons (ak rfl) (.cons (ak rfl) .nil)) ?_
   rw [hbad (by rw [hW]; first | (rw [decide_eq_false (by omega), Bool.and_false]; rfl) | (simp_all; done))]
   exact ⟨_, ⟨_, rfl, rfl⟩, inferInstance⟩
 intro g7_6
 refine aa rfl (al rfl l6 rfl az rfl (by first | exact Nat.zero_add _ | rfl)) ?_
 refine ar rfl rfl (aa rfl (ao aQ rfl (aA rfl)) ?_)
 refine ar rfl rfl (aa rfl (b0 rfl rfl) (aa rfl (aM rfl rfl) (aa rfl (ac rfl) ?_)))
 refine bC rfl rfl rfl ?_ ?_
 · intro g7_11
   refine ap rfl rfl rfl rfl (ap rfl rfl rfl rfl (aa rfl (aY rfl rfl) (ag (ab (cg rfl (ae (ah (aa rfl (ac rfl) (aa rfl (ai rfl) (aa rfl (ai rfl) (ag (ab (av (bj (aE (aE (bj (aE (au (.inl rfl) (.cons (ak rfl) (.cons (ak rfl) .nil)) ?_)))))))))))))))))))
   rw [hbad (by rw [hW]; first | (rw [decide_eq_false (by omega), Bool.and_false]; rfl) | (simp_all; done))]
   exact ⟨_, ⟨_, rfl, rfl⟩, inferInstance⟩
 intro g7_11
 refine aa rfl (al rfl l6 rfl az rfl (by first | exact Nat.zero_add _ | rfl)) ?_
 refine ar rfl rfl (aa rfl (ao aQ rfl (aA rfl)) ?_)
 refine ar rfl rfl (aa rfl (cy rfl rfl) (aa rfl (aM rfl rfl) (ag (ab ?_))))
 refine aw rfl ?_ ?_
 · intro c7
   refine ae (ah (aa rfl (ac rfl) (aa rfl (ai rfl) (aa rfl (ai rfl) (ag (ab (av (bj (aE (aE (bj (aE (au (.inl rfl) (.cons (ak rfl) (.cons (ak rfl) .nil)) ?_)))))))))))))
   rw [hbad (by rw [hW]; first | (rw [decide_eq_false (by omega), Bool.and_false]; rfl) | (simp_all; done))]
   exact ⟨_, ⟨_, rfl, rfl⟩, inferInstance⟩
 intro c7
 refine aB (bH (ab ?_))
 have hv1 : v = true := by first | assumption | simp_all
 rw [hv1, decide_eq_true (by omega)] at hW
 refine ah (aa rfl (ac rfl) ?_)
 refine aa rfl (bF rfl rfl (by first | exact aZ (by omega) | rfl)) ?_
 refine aa rfl (ai rfl) (ag (ab ?_))
 refine cG (i + 1) ?_ ?_ ?_ ?_
 exact ⟨by omega, hgood hW⟩
 omega
 · repeat (first | exact aX | refine aV rfl ?_)
 exact inferInstance
 intro c4
 refine cj (bi (bi (co (ab (ae (ah (aa rfl (ai rfl) (aa rfl (ai rfl) (ag (ab (av (au (.inl rfl) (.cons (ak rfl) (.cons (ak rfl) .nil)) ?_))))))))))))
 obtain rfl : i = c.sl.length := by omega
 rw [i5, decide_eq_false (by omega), Bool.false_or, mZ hI]
 exact ⟨_, ⟨0, rfl, rfl⟩, inferInstance⟩
theorem lU (W0 : World) (R : List HP) (c : Cfg) (hs : ∀ A, cF (bK W0 A) c.ga 3 dS c.gl) (hb : ∀ g ∈ c.gl, 1 ≤ g.2.1 ∧ g.2.1 ≤ 8 ∧ 0 ≤ g.2.2 ∧ g.2.2 ≤ 8 - g.2.1) (hn : c.nl.length ≤ 4) (hg : c.gl.length ≤ 4) :
    aC Tryz.prog W0 191 [.agg (bU c).toArray] R (fun v B => v = .int .i64 (dA c c.gl.length) ∧ B = R) := by
 have hle := rA hb hn
 refine aG func191 ntmps191 rfl rfl ?_
 refine ae (ah (am rfl (bJ rfl) ?_))
 rintro _ _ ⟨b1, rfl, rfl⟩
 refine aa rfl (ai rfl) (ag (ab (ae (ah ?_))))
 refine aa rfl (al rfl bw rfl eV rfl (by first | exact Nat.zero_add _ | rfl)) ?_
 refine aa rfl (ao ff rfl (aA rfl)) ?_
 refine aa rfl (bu eI rfl) (aa rfl (ai rfl) (ag (ab (ae (ae (ah (aa rfl (ai rfl) (ag (ab (aW ?_))))))))))
 refine cT (fun i : Nat => i ≤ c.gl.length) (fun i => [(1, .pointer (some ⟨b1, 0, none⟩)), (3, .int .i64 (dA c i)), (4, .int .i64 (i : Nat))]) (fun _ => pt b1 (dd c) :: R) (fun i => c.gl.length - i) 0 ?_ ?_ ?_ ?_
 exact Nat.zero_le _
 · repeat (first | exact aX | refine aV rfl ?_)
 exact inferInstance
 intro i hi
 refine ae (ae (ah (aa rfl (ac rfl) ?_)))
 refine aa rfl (al rfl bw rfl dD rfl (by first | exact Nat.zero_add _ | rfl)) ?_
 refine aa rfl (ao dN rfl (aA rfl)) ?_
 refine aa rfl (bu dq rfl) (aa rfl (b0 rfl rfl) (ag (ab ?_)))
 refine aw rfl ?_ ?_
 intro c3
 refine aB (ab (ae (aW ?_)))
 have hi1 : i < c.gl.length := by omega
 obtain ⟨g, o, hga, hc⟩ := (hs []).at_ hi1
 obtain ⟨x, hx⟩ : ∃ x, c.gl[i] = x := ⟨_, rfl⟩
 rw [hx] at hc
 have hbx := hb _ (List.getElem_mem hi1)
 rw [hx] at hbx
 have hst : dA c (i + 1) = dA c i + (x.2.1 + x.2.2) := by rw [dA, show c.gl.getD i (0, 0, 0) = x by simp [List.getD, hi1, hx]]
 have hl1 := hle i hi
 refine cA [(b1, 0, bU c), (g, o + i * 3, dS x)] 16 cz rfl (aK (cW hc.weak aJ)) (fun hS => ?_)
 refine aj 0 rfl rfl (by kernel_rfl) (by kernel_rfl) (by kernel_rfl) rfl hS (ac rfl) ?_
 refine aj 1 rfl rfl (by kernel_rfl) (by kernel_rfl) (by kernel_rfl) rfl hS (al rfl bw rfl dD rfl (by first | exact Nat.zero_add _ | rfl)) ?_
 refine aj 2 rfl rfl (by kernel_rfl) (by kernel_rfl) (by kernel_rfl) rfl hS (ao dN rfl (by first | exact aD (k := 0) rfl rfl | exact aD (k := 1) rfl rfl)) ?_
 refine aj 3 rfl rfl (by kernel_rfl) (by kernel_rfl) (by kernel_rfl) rfl hS (ac rfl) ?_
 refine aj 4 rfl rfl (by kernel_rfl) (by kernel_rfl) (by kernel_rfl) rfl hS (dH dq eH rfl hga rfl rfl hi1 (by first | exact Nat.zero_add _ | rfl)) ?_
 refine aj 5 rfl rfl (by kernel_rfl) (by kernel_rfl) (by kernel_rfl) rfl hS (al rfl dV rfl az rfl (by first | exact Nat.zero_add _ | rfl)) ?_
 refine aj 6 rfl rfl (by kernel_rfl) (by kernel_rfl) (by kernel_rfl) rfl hS (ao aQ rfl (fv (k := 1) (j := 1) rfl rfl)) ?_
 refine aj 7 rfl rfl (by kernel_rfl) (by kernel_rfl) (by kernel_rfl) rfl hS (bF rfl rfl (aZ (by omega))) ?_
 refine aj 8 rfl rfl (by kernel_rfl) (by kernel_rfl) (by kernel_rfl) rfl hS (al rfl bw rfl dD rfl (by first | exact Nat.zero_add _ | rfl)) ?_
 refine aj 9 rfl rfl (by kernel_rfl) (by kernel_rfl) (by kernel_rfl) rfl hS (ao dN rfl (by first | exact aD (k := 0) rfl rfl | exact aD (k := 1) rfl rfl)) ?_
 refine aj 10 rfl rfl (by kernel_rfl) (by kernel_rfl) (by kernel_rfl) rfl hS (ac rfl) ?_
 refine aj 11 rfl rfl (by kernel_rfl) (by kernel_rfl) (by kernel_rfl) rfl hS (dH dq eH rfl hga rfl rfl hi1 (by first | exact Nat.zero_add _ | rfl)) ?_
 refine aj 12 rfl rfl (by kernel_rfl) (by kernel_rfl) (by kernel_rfl) rfl hS (al rfl dV rfl az rfl (by first | exact Nat.zero_add _ | rfl)) ?_
 refine aj 13 rfl rfl (by kernel_rfl) (by kernel_rfl) (by kernel_rfl) rfl hS (ao aQ rfl (fv (k := 1) (j := 2) rfl rfl)) ?_
 refine aj 14 rfl rfl (by kernel_rfl) (by kernel_rfl) (by kernel_rfl) rfl hS (bF rfl rfl (by rw [aZ (by omega), hst]; omega : IntKind.wrap .i64 (dA c i + x.2.1 + x.2.2) = dA c (i + 1))) ?_
 refine aj 15 rfl rfl (by kernel_rfl) (by kernel_rfl) (by kernel_rfl) rfl hS (ai rfl) ?_
 refine bL (by kernel_rfl) ?_; clear hS
 refine bH (ab (ah (aa rfl (ac rfl) ?_)))
 refine aa rfl (bF rfl rfl (by first | exact aZ (by omega) | rfl)) ?_
 refine aa rfl (ai rfl) (ag (ab ?_))
 refine cG (i + 1) ?_ ?_ ?_ ?_
 omega
 omega
 · repeat (first | exact aX | refine aV rfl ?_)
 exact inferInstance
 intro c3
 refine cj (bi (bi (co (ab (ae (ah (aa rfl (ac rfl) (aa rfl (ai rfl) (ag (ab (av (au (.inl rfl) (.cons (ak rfl) .nil) ?_))))))))))))
 obtain rfl : i = c.gl.length := by omega
 exact ⟨_, ⟨rfl, rfl⟩, inferInstance⟩
theorem sd {W0 : World} {c : Cfg} (h : CfOk W0 c) (q : Int) : ∃ (gg og j : Nat) (vs : List Value), (∀ A, cY (bK W0 A) gg (og + j * 3) vs) ∧ (e8 c q = true → c.ga = some ⟨gg, og, none⟩ ∧ q = (j : Int) ∧ j < c.gl.length ∧ ∃ u : Int × Int × Int, vs = dS u ∧ fy c q = u.1) := by
 cases hG : e8 c q with
 | false => exact ⟨0, 0, 0, [], fun A k v hk => by simp at hk, fun h => by cases h⟩
 | true =>
  have hb : 0 ≤ q ∧ q < c.gl.length := of_decide_eq_true hG
  obtain ⟨j, rfl⟩ : ∃ j : Nat, q = (j : Int) := ⟨q.toNat, by omega⟩
  have hj : j < c.gl.length := by omega
  obtain ⟨gg, og, hga, _⟩ := (h.g []).at_ hj
  refine ⟨gg, og, j, dS c.gl[j], fun A => ?_, fun _ => ⟨hga, rfl, hj, c.gl[j], rfl, ?_⟩⟩
  obtain ⟨g2, o2, h2, hc2⟩ := (h.g A).at_ hj
  rw [hga] at h2; cases h2; exact hc2
  rw [fy, Int.toNat_natCast]; simp [List.getD, hj]
theorem Cq {c : Cfg} {q : Int} (h : e8 c q = true) : 0 ≤ q ∧ q < c.gl.length := of_decide_eq_true h
theorem Cr {c : Cfg} {q : Int} (h : e8 c q = false) : ¬ (0 ≤ q ∧ q < c.gl.length) := of_decide_eq_false h
theorem Cs (W0 : World) (R : List HP) (c : Cfg) (h : CfOk W0 c) :
    aC Tryz.prog W0 188 [.agg (bU c).toArray] R (fun v B => ∃ r, v = .tuple #[.bool (f3 c), .int .i64 r] ∧ B = R) := by
 refine aG func188 ntmps188 rfl rfl ?_
 refine ae (ah (am rfl (bJ rfl) ?_))
 rintro _ _ ⟨b1, rfl, rfl⟩
 refine aa rfl (ai rfl) (aa rfl (ai rfl) (ag (ab (ae (ae (ah ?_))))))
 refine aa rfl (al rfl bw rfl eV rfl (by first | exact Nat.zero_add _ | rfl)) ?_
 refine aa rfl (ao ff rfl (aA rfl)) ?_
 refine aa rfl (bu eI rfl) (aa rfl (cy rfl rfl) (ag (ab ?_)))
 refine aw rfl ?_ ?_
 intro c1
 refine ae (ah (aa rfl (ai rfl) (aa rfl (ai rfl) (ag (ab (av (aE (au (.inl rfl) (.cons (ak rfl) (.cons (ak rfl) .nil)) ?_))))))))
 rw [f3, decide_eq_true (by omega), Bool.true_or]
 exact ⟨_, ⟨0, rfl, rfl⟩, inferInstance⟩
 intro c1
 refine aB (ab (ae (ae (ah (aa rfl (ai rfl) (ag (ab (aW ?_))))))))
 refine cT (fun i : Nat => i ≤ c.nl.length ∧ (∀ j, j < i → gq c (c.nl.getD j (0, 0)) = false)) (fun i => [(1, .pointer (some ⟨b1, 0, none⟩)), (4, .int .i64 i)]) (fun _ => pt b1 (dd c) :: R) (fun i => c.nl.length - i) 0 ?_ ?_ ?_ ?_
 exact ⟨Nat.zero_le _, fun j hj => absurd hj (Nat.not_lt_zero _)⟩
 · repeat (first | exact aX | refine aV rfl ?_)
 exact inferInstance
 intro i ⟨hi, hI⟩
 refine ae (ae (ah (aa rfl (ac rfl) ?_)))
 refine aa rfl (al rfl bw rfl eV rfl (by first | exact Nat.zero_add _ | rfl)) ?_
 refine aa rfl (ao ff rfl (aA rfl)) ?_
 refine aa rfl (bu eI rfl) (aa rfl (b0 rfl rfl) (ag (ab ?_)))
 refine aw rfl ?_ ?_
 intro c4
 refine aB (ab (ae (aW (ae ?_))))
 have hi1 : i < c.nl.length := by omega
 obtain ⟨g, o, hga, hc⟩ := (h.n []).at_ hi1
 obtain ⟨⟨p, q⟩, hx⟩ : ∃ x, c.nl[i] = x := ⟨_, rfl⟩
 have hgd : c.nl.getD i (0, 0) = (p, q) := by simp [List.getD, hi1, hx]
 rw [hx] at hc
 have hbad : gq c (p, q) = true → f3 c = true := fun z => by
  rw [f3, lM (w := fun i => gq c (c.nl.getD i (0, 0))) hi1 (by rw [hgd]; exact z), Bool.or_true]
 have hgood := fun z => nu (w := fun i => gq c (c.nl.getD i (0, 0))) hI (show gq c (c.nl.getD i (0, 0)) = false by rw [hgd]; exact z)
 obtain ⟨g1, o1, j1, vs1, hcv1, hr1⟩ := sd h p
 obtain ⟨g2, o2, j2, vs2, hcv2, hr2⟩ := sd h q
 obtain ⟨w1, hw1⟩ : ∃ w, e8 c p = w := ⟨_, rfl⟩
 obtain ⟨w2, hw2⟩ : ∃ w, e8 c q = w := ⟨_, rfl⟩
 have hW : gq c (p, q) = !(w1 && w2 && decide (p ≠ q) && iL (fy c p) (fy c q)) := by rw [gq, hw1, hw2]
 rw [hw1] at hr1
 rw [hw2] at hr2
 refine ah ?_
 refine aa rfl (al rfl bw rfl eV rfl (by first | exact Nat.zero_add _ | rfl)) ?_
 refine aa rfl (ao ff rfl (aA rfl)) ?_
 refine aa rfl (ac rfl) ?_
 refine aa rfl (dH eI ei rfl hga rfl rfl hi1 (by first | exact Nat.zero_add _ | rfl)) ?_
 refine aa rfl (cV l7 ei rfl hc.weak rfl) ?_
 refine am rfl (cM ic) ?_
 rintro _ _ ⟨bx, rfl, rfl⟩
 refine bD (cD ei rfl rfl rfl rfl rfl) ?_
 rintro _ _ rfl
 refine ag (ab (ae ?_))
 refine cA [(b1, 0, bU c), (bx, 0, dj (p, q)), (g1, o1 + j1 * 3, vs1), (g2, o2 + j2 * 3, vs2)] 37 cz rfl (aK (aK (cW (hcv1 _) (cW (hcv2 _) aJ)))) (fun hS => ?_)
 refine aj 0 rfl rfl (by kernel_rfl) (by kernel_rfl) (by kernel_rfl) rfl hS (cV cn bN rfl (by first | exact dm (k := 0) rfl | exact dm (k := 1) rfl | exact dm (k := 2) rfl | exact dm (k := 3) rfl | exact dm (k := 4) rfl) rfl) ?_
 refine aj 1 rfl rfl (by kernel_rfl) (by kernel_rfl) (by kernel_rfl) rfl hS (al rfl et rfl az rfl (by first | exact Nat.zero_add _ | rfl)) ?_
 refine aj 2 rfl rfl (by kernel_rfl) (by kernel_rfl) (by kernel_rfl) rfl hS (ao aQ rfl (by first | exact aD (k := 0) rfl rfl | exact aD (k := 1) rfl rfl | exact aD (k := 2) rfl rfl | exact aD (k := 3) rfl rfl | exact aD (k := 4) rfl rfl)) ?_
 refine bA 3 (by kernel_rfl) rfl rfl (aU pO rfl (nt c p)) rfl ?_; clear hS
 rintro _ B_ ⟨rfl, hB_⟩
 obtain rfl := hB_.symm
 rw [hw1]
 refine ⟨(aK (aK (cW (hcv1 _) (cW (hcv2 _) aJ)))), fun hS => ?_⟩
 refine aj 4 rfl rfl (by kernel_rfl) (by kernel_rfl) (by kernel_rfl) rfl hS (bM rfl) ?_
 refine aj 5 rfl rfl (by kernel_rfl) (by kernel_rfl) (by kernel_rfl) rfl hS (ac rfl) ?_
 refine jy (t := 27) rfl ?_ ?_
 · intro g7_6
   refine bz 6 rfl rfl (by kernel_rfl) (by kernel_rfl) (by kernel_rfl) rfl hS ?_
   refine bz 7 rfl rfl (by kernel_rfl) (by kernel_rfl) (by kernel_rfl) rfl hS ?_
   refine bz 8 rfl rfl (by kernel_rfl) (by kernel_rfl) (by kernel_rfl) rfl hS ?_
   refine bz 9 rfl rfl (by kernel_rfl) (by kernel_rfl) (by kernel_rfl) rfl hS ?_
   refine bz 10 rfl rfl (by kernel_rfl) (by kernel_rfl) (by kernel_rfl) rfl hS ?_
   refine aj 11 rfl rfl (by kernel_rfl) (by kernel_rfl) (by kernel_rfl) rfl hS (aY rfl rfl) ?_
   refine aj 12 rfl rfl (by kernel_rfl) (by kernel_rfl) (by kernel_rfl) rfl hS (ac rfl) ?_
   refine bz 13 rfl rfl (by kernel_rfl) (by kernel_rfl) (by kernel_rfl) rfl hS ?_
   refine bz 14 rfl rfl (by kernel_rfl) (by kernel_rfl) (by kernel_rfl) rfl hS ?_
   refine bz 15 rfl rfl (by kernel_rfl) (by kernel_rfl) (by kernel_rfl) rfl hS ?_
   refine bz 16 rfl rfl (by kernel_rfl) (by kernel_rfl) (by kernel_rfl) rfl hS ?_
   refine bz 17 rfl rfl (by kernel_rfl) (by kernel_rfl) (by kernel_rfl) rfl hS ?_
   refine aj 18 rfl rfl (by kernel_rfl) (by kernel_rfl) (by kernel_rfl) rfl hS (aY rfl rfl) ?_
   refine aj 19 rfl rfl (by kernel_rfl) (by kernel_rfl) (by kernel_rfl) rfl hS (ac rfl) ?_
   refine bz 20 rfl rfl (by kernel_rfl) (by kernel_rfl) (by kernel_rfl) rfl hS ?_
   refine bz 21 rfl rfl (by kernel_rfl) (by kernel_rfl) (by kernel_rfl) rfl hS ?_
   refine bz 22 rfl rfl (by kernel_rfl) (by kernel_rfl) (by kernel_rfl) rfl hS ?_
   refine bz 23 rfl rfl (by kernel_rfl) (by kernel_rfl) (by kernel_rfl) rfl hS ?_
   refine bz 24 rfl rfl (by kernel_rfl) (by kernel_rfl) (by kernel_rfl) rfl hS ?_
   refine bz 25 rfl rfl (by kernel_rfl) (by kernel_rfl) (by kernel_rfl) rfl hS ?_
   refine bz 26 rfl rfl (by kernel_rfl) (by kernel_rfl) (by kernel_rfl) rfl hS ?_
   refine bz 27 rfl rfl (by kernel_rfl) (by kernel_rfl) (by kernel_rfl) rfl hS ?_
   refine bz 28 rfl rfl (by kernel_rfl) (by kernel_rfl) (by kernel_rfl) rfl hS ?_
   refine bz 29 rfl rfl (by kernel_rfl) (by kernel_rfl) (by kernel_rfl) rfl hS ?_
   refine bz 30 rfl rfl (by kernel_rfl) (by kernel_rfl) (by kernel_rfl) rfl hS ?_
   refine bz 31 rfl rfl (by kernel_rfl) (by kernel_rfl) (by kernel_rfl) rfl hS ?_
   refine bz 32 rfl rfl (by kernel_rfl) (by kernel_rfl) (by kernel_rfl) rfl hS ?_
   refine bz 33 rfl rfl (by kernel_rfl) (by kernel_rfl) (by kernel_rfl) rfl hS ?_
   refine bz 34 rfl rfl (by kernel_rfl) (by kernel_rfl) (by kernel_rfl) rfl hS ?_
   refine bz 35 rfl rfl (by kernel_rfl) (by kernel_rfl) (by kernel_rfl) rfl hS ?_
   refine aj 36 rfl rfl (by kernel_rfl) (by kernel_rfl) (by kernel_rfl) rfl hS (aY rfl rfl) ?_
   refine bL (by kernel_rfl) ?_; clear hS
   refine ab (cg rfl (ae (ah (aa rfl (ac rfl) (aa rfl (ai rfl) (aa rfl (ai rfl) (ag (ab (av (bj (aE (aE (bj (aE (au (.inl rfl) (.cons (ak rfl) (.cons (ak rfl) .nil)) ?_)))))))))))))))
   rw [hbad (by rw [hW]; first | (simp_all; done) | (rw [decide_eq_false (by omega)]; simp))]
   exact ⟨_, ⟨_, rfl, rfl⟩, inferInstance⟩
 intro g7_6
 refine aj 6 rfl rfl (by kernel_rfl) (by kernel_rfl) (by kernel_rfl) rfl hS (cV cn bN rfl (by first | exact dm (k := 0) rfl | exact dm (k := 1) rfl | exact dm (k := 2) rfl | exact dm (k := 3) rfl | exact dm (k := 4) rfl) rfl) ?_
 refine aj 7 rfl rfl (by kernel_rfl) (by kernel_rfl) (by kernel_rfl) rfl hS (al rfl et rfl az rfl (by first | exact Nat.zero_add _ | rfl)) ?_
 refine aj 8 rfl rfl (by kernel_rfl) (by kernel_rfl) (by kernel_rfl) rfl hS (ao aQ rfl (by first | exact aD (k := 0) rfl rfl | exact aD (k := 1) rfl rfl | exact aD (k := 2) rfl rfl | exact aD (k := 3) rfl rfl | exact aD (k := 4) rfl rfl)) ?_
 refine bA 9 (by kernel_rfl) rfl rfl (aU pO rfl (nt c q)) rfl ?_; clear hS
 rintro _ B_ ⟨rfl, hB_⟩
 obtain rfl := hB_.symm
 rw [hw2]
 refine ⟨(aK (aK (cW (hcv1 _) (cW (hcv2 _) aJ)))), fun hS => ?_⟩
 refine aj 10 rfl rfl (by kernel_rfl) (by kernel_rfl) (by kernel_rfl) rfl hS (bM rfl) ?_
 refine aj 11 rfl rfl (by kernel_rfl) (by kernel_rfl) (by kernel_rfl) rfl hS (aM rfl rfl) ?_
 refine aj 12 rfl rfl (by kernel_rfl) (by kernel_rfl) (by kernel_rfl) rfl hS (ac rfl) ?_
 refine jy (t := 34) rfl ?_ ?_
 · intro g7_13
   refine bz 13 rfl rfl (by kernel_rfl) (by kernel_rfl) (by kernel_rfl) rfl hS ?_
   refine bz 14 rfl rfl (by kernel_rfl) (by kernel_rfl) (by kernel_rfl) rfl hS ?_
   refine bz 15 rfl rfl (by kernel_rfl) (by kernel_rfl) (by kernel_rfl) rfl hS ?_
   refine bz 16 rfl rfl (by kernel_rfl) (by kernel_rfl) (by kernel_rfl) rfl hS ?_
   refine bz 17 rfl rfl (by kernel_rfl) (by kernel_rfl) (by kernel_rfl) rfl hS ?_
   refine aj 18 rfl rfl (by kernel_rfl) (by kernel_rfl) (by kernel_rfl) rfl hS (aY rfl rfl) ?_
   refine aj 19 rfl rfl (by kernel_rfl) (by kernel_rfl) (by kernel_rfl) rfl hS (ac rfl) ?_
   refine bz 20 rfl rfl (by kernel_rfl) (by kernel_rfl) (by kernel_rfl) rfl hS ?_
   refine bz 21 rfl rfl (by kernel_rfl) (by kernel_rfl) (by kernel_rfl) rfl hS ?_
   refine bz 22 rfl rfl (by kernel_rfl) (by kernel_rfl) (by kernel_rfl) rfl hS ?_
   refine bz 23 rfl rfl (by kernel_rfl) (by kernel_rfl) (by kernel_rfl) rfl hS ?_
   refine bz 24 rfl rfl (by kernel_rfl) (by kernel_rfl) (by kernel_rfl) rfl hS ?_
   refine bz 25 rfl rfl (by kernel_rfl) (by kernel_rfl) (by kernel_rfl) rfl hS ?_
   refine bz 26 rfl rfl (by kernel_rfl) (by kernel_rfl) (by kernel_rfl) rfl hS ?_
   refine bz 27 rfl rfl (by kernel_rfl) (by kernel_rfl) (by kernel_rfl) rfl hS ?_
   refine bz 28 rfl rfl (by kernel_rfl) (by kernel_rfl) (by kernel_rfl) rfl hS ?_
   refine bz 29 rfl rfl (by kernel_rfl) (by kernel_rfl) (by kernel_rfl) rfl hS ?_
   refine bz 30 rfl rfl (by kernel_rfl) (by kernel_rfl) (by kernel_rfl) rfl hS ?_
   refine bz 31 rfl rfl (by kernel_rfl) (by kernel_rfl) (by kernel_rfl) rfl hS ?_
   refine bz 32 rfl rfl (by kernel_rfl) (by kernel_rfl) (by kernel_rfl) rfl hS ?_
   refine bz 33 rfl rfl (by kernel_rfl) (by kernel_rfl) (by kernel_rfl) rfl hS ?_
   refine bz 34 rfl rfl (by kernel_rfl) (by kernel_rfl) (by kernel_rfl) rfl hS ?_
   refine bz 35 rfl rfl (by kernel_rfl) (by kernel_rfl) (by kernel_rfl) rfl hS ?_
   refine aj 36 rfl rfl (by kernel_rfl) (by kernel_rfl) (by kernel_rfl) rfl hS (aY rfl rfl) ?_
   refine bL (by kernel_rfl) ?_; clear hS
   refine ab (cg rfl (ae (ah (aa rfl (ac rfl) (aa rfl (ai rfl) (aa rfl (ai rfl) (ag (ab (av (bj (aE (aE (bj (aE (au (.inl rfl) (.cons (ak rfl) (.cons (ak rfl) .nil)) ?_)))))))))))))))
   rw [hbad (by rw [hW]; first | (simp_all; done) | (rw [decide_eq_false (by omega)]; simp))]
   exact ⟨_, ⟨_, rfl, rfl⟩, inferInstance⟩
 intro g7_13
 refine aj 13 rfl rfl (by kernel_rfl) (by kernel_rfl) (by kernel_rfl) rfl hS (al rfl et rfl az rfl (by first | exact Nat.zero_add _ | rfl)) ?_
 refine aj 14 rfl rfl (by kernel_rfl) (by kernel_rfl) (by kernel_rfl) rfl hS (ao aQ rfl (by first | exact aD (k := 0) rfl rfl | exact aD (k := 1) rfl rfl | exact aD (k := 2) rfl rfl | exact aD (k := 3) rfl rfl | exact aD (k := 4) rfl rfl)) ?_
 refine aj 15 rfl rfl (by kernel_rfl) (by kernel_rfl) (by kernel_rfl) rfl hS (al rfl et rfl az rfl (by first | exact Nat.zero_add _ | rfl)) ?_
 refine aj 16 rfl rfl (by kernel_rfl) (by kernel_rfl) (by kernel_rfl) rfl hS (ao aQ rfl (by first | exact aD (k := 0) rfl rfl | exact aD (k := 1) rfl rfl | exact aD (k := 2) rfl rfl | exact aD (k := 3) rfl rfl | exact aD (k := 4) rfl rfl)) ?_
 refine aj 17 rfl rfl (by kernel_rfl) (by kernel_rfl) (by kernel_rfl) rfl hS (cu rfl rfl) ?_
 refine aj 18 rfl rfl (by kernel_rfl) (by kernel_rfl) (by kernel_rfl) rfl hS (aM rfl rfl) ?_
 refine aj 19 rfl rfl (by kernel_rfl) (by kernel_rfl) (by kernel_rfl) rfl hS (ac rfl) ?_
 refine jy (t := 41) rfl ?_ ?_
 · intro g7_20
   refine bz 20 rfl rfl (by kernel_rfl) (by kernel_rfl) (by kernel_rfl) rfl hS ?_
   refine bz 21 rfl rfl (by kernel_rfl) (by kernel_rfl) (by kernel_rfl) rfl hS ?_
   refine bz 22 rfl rfl (by kernel_rfl) (by kernel_rfl) (by kernel_rfl) rfl hS ?_
   refine bz 23 rfl rfl (by kernel_rfl) (by kernel_rfl) (by kernel_rfl) rfl hS ?_
   refine bz 24 rfl rfl (by kernel_rfl) (by kernel_rfl) (by kernel_rfl) rfl hS ?_
   refine bz 25 rfl rfl (by kernel_rfl) (by kernel_rfl) (by kernel_rfl) rfl hS ?_
   refine bz 26 rfl rfl (by kernel_rfl) (by kernel_rfl) (by kernel_rfl) rfl hS ?_
   refine bz 27 rfl rfl (by kernel_rfl) (by kernel_rfl) (by kernel_rfl) rfl hS ?_
   refine bz 28 rfl rfl (by kernel_rfl) (by kernel_rfl) (by kernel_rfl) rfl hS ?_
   refine bz 29 rfl rfl (by kernel_rfl) (by kernel_rfl) (by kernel_rfl) rfl hS ?_
   refine bz 30 rfl rfl (by kernel_rfl) (by kernel_rfl) (by kernel_rfl) rfl hS ?_
   refine bz 31 rfl rfl (by kernel_rfl) (by kernel_rfl) (by kernel_rfl) rfl hS ?_
   refine bz 32 rfl rfl (by kernel_rfl) (by kernel_rfl) (by kernel_rfl) rfl hS ?_
   refine bz 33 rfl rfl (by kernel_rfl) (by kernel_rfl) (by kernel_rfl) rfl hS ?_
   refine bz 34 rfl rfl (by kernel_rfl) (by kernel_rfl) (by kernel_rfl) rfl hS ?_
   refine bz 35 rfl rfl (by kernel_rfl) (by kernel_rfl) (by kernel_rfl) rfl hS ?_
   refine aj 36 rfl rfl (by kernel_rfl) (by kernel_rfl) (by kernel_rfl) rfl hS (aY rfl rfl) ?_
   refine bL (by kernel_rfl) ?_; clear hS
   refine ab (cg rfl (ae (ah (aa rfl (ac rfl) (aa rfl (ai rfl) (aa rfl (ai rfl) (ag (ab (av (bj (aE (aE (bj (aE (au (.inl rfl) (.cons (ak rfl) (.cons (ak rfl) .nil)) ?_)))))))))))))))
   rw [hbad (by rw [hW]; first | (simp_all; done) | (rw [decide_eq_false (by omega)]; simp))]
   exact ⟨_, ⟨_, rfl, rfl⟩, inferInstance⟩
 intro g7_20
 obtain rfl : w1 = true := by first | assumption | simp_all
 obtain rfl : w2 = true := by first | assumption | simp_all
 obtain ⟨ha1, hq1, hj1, u1, rfl, hl1⟩ := hr1 rfl
 obtain ⟨ha2, hq2, hj2, u2, rfl, hl2⟩ := hr2 rfl
 rw [hl1, hl2] at hW
 refine aj 20 rfl rfl (by kernel_rfl) (by kernel_rfl) (by kernel_rfl) rfl hS (al rfl bw rfl dD rfl (by first | exact Nat.zero_add _ | rfl)) ?_
 refine aj 21 rfl rfl (by kernel_rfl) (by kernel_rfl) (by kernel_rfl) rfl hS (ao dN rfl (by first | exact aD (k := 0) rfl rfl | exact aD (k := 1) rfl rfl | exact aD (k := 2) rfl rfl | exact aD (k := 3) rfl rfl | exact aD (k := 4) rfl rfl)) ?_
 refine aj 22 rfl rfl (by kernel_rfl) (by kernel_rfl) (by kernel_rfl) rfl hS (al rfl et rfl az rfl (by first | exact Nat.zero_add _ | rfl)) ?_
 refine aj 23 rfl rfl (by kernel_rfl) (by kernel_rfl) (by kernel_rfl) rfl hS (ao aQ rfl (by first | exact aD (k := 0) rfl rfl | exact aD (k := 1) rfl rfl | exact aD (k := 2) rfl rfl | exact aD (k := 3) rfl rfl | exact aD (k := 4) rfl rfl)) ?_
 refine aj 24 rfl rfl (by kernel_rfl) (by kernel_rfl) (by kernel_rfl) rfl hS (dH dq eH rfl ha1 rfl hq1 hj1 (by first | exact Nat.zero_add _ | rfl)) ?_
 refine aj 25 rfl rfl (by kernel_rfl) (by kernel_rfl) (by kernel_rfl) rfl hS (al rfl dV rfl az rfl (by first | exact Nat.zero_add _ | rfl)) ?_
 refine aj 26 rfl rfl (by kernel_rfl) (by kernel_rfl) (by kernel_rfl) rfl hS (ao aQ rfl (fv (k := 2) (j := 0) rfl rfl)) ?_
 refine aj 27 rfl rfl (by kernel_rfl) (by kernel_rfl) (by kernel_rfl) rfl hS (al rfl bw rfl dD rfl (by first | exact Nat.zero_add _ | rfl)) ?_
 refine aj 28 rfl rfl (by kernel_rfl) (by kernel_rfl) (by kernel_rfl) rfl hS (ao dN rfl (by first | exact aD (k := 0) rfl rfl | exact aD (k := 1) rfl rfl | exact aD (k := 2) rfl rfl | exact aD (k := 3) rfl rfl | exact aD (k := 4) rfl rfl)) ?_
 refine aj 29 rfl rfl (by kernel_rfl) (by kernel_rfl) (by kernel_rfl) rfl hS (al rfl et rfl az rfl (by first | exact Nat.zero_add _ | rfl)) ?_
 refine aj 30 rfl rfl (by kernel_rfl) (by kernel_rfl) (by kernel_rfl) rfl hS (ao aQ rfl (by first | exact aD (k := 0) rfl rfl | exact aD (k := 1) rfl rfl | exact aD (k := 2) rfl rfl | exact aD (k := 3) rfl rfl | exact aD (k := 4) rfl rfl)) ?_
 refine aj 31 rfl rfl (by kernel_rfl) (by kernel_rfl) (by kernel_rfl) rfl hS (dH dq eH rfl ha2 rfl hq2 hj2 (by first | exact Nat.zero_add _ | rfl)) ?_
 refine aj 32 rfl rfl (by kernel_rfl) (by kernel_rfl) (by kernel_rfl) rfl hS (al rfl dV rfl az rfl (by first | exact Nat.zero_add _ | rfl)) ?_
 refine aj 33 rfl rfl (by kernel_rfl) (by kernel_rfl) (by kernel_rfl) rfl hS (ao aQ rfl (fv (k := 3) (j := 0) rfl rfl)) ?_
 refine bA 34 (by kernel_rfl) rfl rfl (aU call295 rfl (zX u1.1 u2.1)) rfl ?_; clear hS
 rintro _ B_ ⟨rfl, hB_⟩
 obtain rfl := hB_.symm
 refine ⟨(aK (aK (cW (hcv1 _) (cW (hcv2 _) aJ)))), fun hS => ?_⟩
 refine aj 35 rfl rfl (by kernel_rfl) (by kernel_rfl) (by kernel_rfl) rfl hS (bM rfl) ?_
 refine aj 36 rfl rfl (by kernel_rfl) (by kernel_rfl) (by kernel_rfl) rfl hS (aM rfl rfl) ?_
 refine bL (by kernel_rfl) ?_; clear hS
 refine ab ?_
 refine aw rfl ?_ ?_
 · intro c7
   refine ae (ah (aa rfl (ac rfl) (aa rfl (ai rfl) (aa rfl (ai rfl) (ag (ab (av (bj (aE (aE (bj (aE (au (.inl rfl) (.cons (ak rfl) (.cons (ak rfl) .nil)) ?_)))))))))))))
   rw [hbad (by rw [hW]; first | (simp_all; done) | (rw [decide_eq_false (by omega)]; simp))]
   exact ⟨_, ⟨_, rfl, rfl⟩, inferInstance⟩
 intro c7
 refine aB (bH (ab (ah (aa rfl (ac rfl) ?_))))
 refine aa rfl (bF rfl rfl (by first | exact aZ (by omega) | rfl)) ?_
 refine aa rfl (ai rfl) (ag (ab ?_))
 refine cG (i + 1) ?_ ?_ ?_ ?_
 refine ⟨by omega, hgood ?_⟩
 rw [hW, decide_eq_true (by omega)]; simp_all
 omega
 · repeat (first | exact aX | refine aV rfl ?_)
 exact inferInstance
 intro c4
 refine cj (bi (bi (co (ab (ae (ah (aa rfl (ai rfl) (aa rfl (ai rfl) (ag (ab (av (au (.inl rfl) (.cons (ak rfl) (.cons (ak rfl) .nil)) ?_))))))))))))
 obtain rfl : i = c.nl.length := by omega
 rw [f3, decide_eq_false (by omega), Bool.false_or, mZ hI]
 exact ⟨_, ⟨0, rfl, rfl⟩, inferInstance⟩
theorem wc {c : Cfg} {g : Int} {k j : Nat} (hj : j < k) (h : j < c.pl.length) (e : (c.pl[j]).2 = g) : i6 c g k = true := by
 rw [i6, List.any_eq_true]
 exact ⟨c.pl[j], List.mem_take_iff_getElem.2 ⟨j, by omega, rfl⟩, decide_eq_true e⟩
theorem wd {c : Cfg} {g : Int} {k : Nat} (hI : ∀ j, j < k → (c.pl.getD j (0, 0)).2 ≠ g) : i6 c g k = false := by
 rw [i6, List.any_eq_false]
 intro x hx
 obtain ⟨j, hj, rfl⟩ := List.mem_take_iff_getElem.1 hx
 have := hI j (by omega)
 rw [show c.pl.getD j (0, 0) = c.pl[j]'(by omega) by simp [List.getD, show j < c.pl.length by omega]] at this
 simpa using this
theorem Cu (W0 : World) (R : List HP) (c : Cfg) (h : CfOk W0 c) :
    aC Tryz.prog W0 187 [.agg (bU c).toArray] R (fun v B => ∃ r, v = .tuple #[.bool (i7 c), .int .i64 r] ∧ B = R) := by
 refine aG func187 ntmps187 rfl rfl ?_
 refine ae (ah (am rfl (bJ rfl) ?_))
 rintro _ _ ⟨b1, rfl, rfl⟩
 refine aa rfl (ai rfl) (aa rfl (ai rfl) (ag (ab (ae (ae (ah ?_))))))
 refine aa rfl (al rfl bw rfl fX rfl (by first | exact Nat.zero_add _ | rfl)) ?_
 refine aa rfl (ao iC rfl (aA rfl)) ?_
 refine aa rfl (bu f8 rfl) (aa rfl (cy rfl rfl) (ag (ab ?_)))
 refine aw rfl ?_ ?_
 intro c1
 refine ae (ah (aa rfl (ai rfl) (aa rfl (ai rfl) (ag (ab (av (aE (au (.inl rfl) (.cons (ak rfl) (.cons (ak rfl) .nil)) ?_))))))))
 rw [i7, decide_eq_true (by omega), Bool.true_or]
 exact ⟨_, ⟨0, rfl, rfl⟩, inferInstance⟩
 intro c1
 refine aB (ab (ae (ae (ah (aa rfl (ai rfl) (ag (ab (aW ?_))))))))
 refine cT (fun i : Nat => i ≤ c.pl.length ∧ (∀ j, j < i → j7 c j = false)) (fun i => [(1, .pointer (some ⟨b1, 0, none⟩)), (4, .int .i64 i)]) (fun _ => pt b1 (dd c) :: R) (fun i => c.pl.length - i) 0 ?_ ?_ ?_ ?_
 exact ⟨Nat.zero_le _, fun j hj => absurd hj (Nat.not_lt_zero _)⟩
 · repeat (first | exact aX | refine aV rfl ?_)
 exact inferInstance
 intro i ⟨hi, hI⟩
 refine ae (ae (ah (aa rfl (ac rfl) ?_)))
 refine aa rfl (al rfl bw rfl fX rfl (by first | exact Nat.zero_add _ | rfl)) ?_
 refine aa rfl (ao iC rfl (aA rfl)) ?_
 refine aa rfl (bu f8 rfl) (aa rfl (b0 rfl rfl) (ag (ab ?_)))
 refine aw rfl ?_ ?_
 intro c4
 refine aB (ab (ae (aW (ae ?_))))
 have hi1 : i < c.pl.length := by omega
 obtain ⟨g, o, hga, hc⟩ := (h.p []).at_ hi1
 obtain ⟨⟨p, q⟩, hx⟩ : ∃ x, c.pl[i] = x := ⟨_, rfl⟩
 have hgd : c.pl.getD i (0, 0) = (p, q) := by simp [List.getD, hi1, hx]
 rw [hx] at hc
 have hbad : j7 c i = true → i7 c = true := fun z => by
  rw [i7, lM hi1 z, Bool.or_true]
 have hgood := fun z => nu (w := j7 c) hI z
 obtain ⟨g1, o1, j1, vs1, hcv1, hr1⟩ := sd h q
 obtain ⟨w1, hw1⟩ : ∃ w, e8 c q = w := ⟨_, rfl⟩
 obtain ⟨v1, hv1⟩ : ∃ w, dK p c.cats = w := ⟨_, rfl⟩
 have hW : j7 c i = (!v1 || (decide (q ≠ -1) && (!w1 || decide (p ≠ fy c q) || i6 c q i))) := by rw [j7, hgd, hw1, hv1]
 rw [hw1] at hr1
 have hlt : w1 = true → 0 ≤ q := fun z => (Cq (hw1.trans z)).1
 have hge : w1 = false → ¬ (0 ≤ q ∧ q < c.gl.length) := fun z => Cr (hw1.trans z)
 refine ah ?_
 refine aa rfl (al rfl bw rfl fX rfl (by first | exact Nat.zero_add _ | rfl)) ?_
 refine aa rfl (ao iC rfl (aA rfl)) ?_
 refine aa rfl (ac rfl) ?_
 refine aa rfl (dH f8 fe rfl hga rfl rfl hi1 (by first | exact Nat.zero_add _ | rfl)) ?_
 refine aa rfl (cV nF fe rfl hc.weak rfl) ?_
 refine am rfl (cM ke) ?_
 rintro _ _ ⟨bx, rfl, rfl⟩
 refine bD (cD fe rfl rfl rfl rfl rfl) ?_
 rintro _ _ rfl
 refine ag (ab (ae (ae (ah ?_))))
 refine aa rfl (al rfl eG rfl az rfl (by first | exact Nat.zero_add _ | rfl)) ?_
 refine aa rfl (ao aQ rfl (aA rfl)) ?_
 refine aa rfl (al rfl bw rfl az rfl (by first | exact Nat.zero_add _ | rfl)) ?_
 refine aa rfl (ao aQ rfl (aA rfl)) ?_
 refine am rfl (aU xW rfl (sb p c.cats)) ?_
 rintro _ B_ ⟨rfl, hB_⟩
 obtain rfl := hB_.symm
 rw [hv1]
 refine aa rfl (bM rfl) (aa rfl (ac rfl) ?_)
 refine bC rfl rfl rfl ?_ ?_
 intro g7_7
 refine ap rfl rfl rfl rfl (ap rfl rfl rfl rfl (ap rfl rfl rfl rfl (fF rfl rfl rfl (fF rfl rfl rfl (fF rfl rfl rfl (fF rfl rfl rfl (fF rfl rfl rfl (ap rfl rfl rfl rfl (aa rfl (aY rfl rfl) (ag (ab (cg rfl (ae (ah (aa rfl (ac rfl) (aa rfl (ai rfl) (aa rfl (ai rfl) (ag (ab (av (aE (bj (aE ?_)))))))))))))))))))))))
 refine aE (bj (aE (au (.inl rfl) (.cons (ak rfl) (.cons (ak rfl) .nil)) ?_)))
 rw [hbad (by rw [hW]; simp_all)]
 exact ⟨_, ⟨_, rfl, rfl⟩, inferInstance⟩
 intro g7_7
 refine aa rfl (al rfl eG rfl az rfl (by first | exact Nat.zero_add _ | rfl)) ?_
 refine ar rfl rfl (aa rfl (ao aQ rfl (aA rfl)) ?_)
 refine ar rfl rfl (aa rfl (bI rfl rfl) (ar rfl rfl (aa rfl (ac rfl) ?_)))
 refine cJ rfl rfl rfl ?_ ?_
 intro g7_11
 refine aa rfl (cp cn bN rfl rfl) ?_
 refine ar rfl rfl ?_
 refine aa rfl (al rfl eG rfl az rfl (by first | exact Nat.zero_add _ | rfl)) ?_
 refine ar rfl rfl (aa rfl (ao aQ rfl (aA rfl)) ?_)
 refine ar rfl rfl (am rfl (aU pO rfl (nt c q)) ?_)
 rintro _ B_ ⟨rfl, hB_⟩
 obtain rfl := hB_.symm
 rw [hw1]
 refine ar rfl rfl (aa rfl (bM rfl) (ar rfl rfl (aa rfl (aY rfl rfl) (aa rfl (aM rfl rfl) (ag (ab ?_))))))
 refine aw rfl ?_ ?_
 intro c7
 refine ae (ah (aa rfl (ac rfl) (aa rfl (ai rfl) (aa rfl (ai rfl) (ag (ab (av (aE (bj (aE (aE (bj (aE (au (.inl rfl) (.cons (ak rfl) (.cons (ak rfl) .nil)) ?_))))))))))))))
 rw [hbad (by rw [hW]; simp_all)]
 exact ⟨_, ⟨_, rfl, rfl⟩, inferInstance⟩
 intro c7
 refine aB (ab ?_)
 refine gM (fun _ : Unit => v1 = true ∧ (q = -1 ∨ (w1 = true ∧ p = fy c q))) (fun _ => [(1, .pointer (some ⟨b1, 0, none⟩)), (4, .int .i64 i), (5, .pointer (some ⟨bx, 0, none⟩))]) (fun _ => pt bx (ax (dj (p, q)) 146) :: pt b1 (dd c) :: R) ?_ ?_
 skip
 refine ae ?_
 have hv2 : v1 = true := by simp_all
 have hq2 : q = -1 ∨ w1 = true := by
  by_cases z : q = -1
  exact .inl z
  right; simp_all
 refine cA [(b1, 0, bU c), (bx, 0, dj (p, q)), (g1, o1 + j1 * 3, vs1)] 15 cz rfl (aK (aK (cW (hcv1 _) aJ))) (fun hS => ?_)
 refine aj 0 rfl rfl (by kernel_rfl) (by kernel_rfl) (by kernel_rfl) rfl hS (al rfl eG rfl az rfl (by first | exact Nat.zero_add _ | rfl)) ?_
 refine aj 1 rfl rfl (by kernel_rfl) (by kernel_rfl) (by kernel_rfl) rfl hS (ao aQ rfl (by first | exact aD (k := 0) rfl rfl | exact aD (k := 1) rfl rfl | exact aD (k := 2) rfl rfl | exact aD (k := 3) rfl rfl)) ?_
 refine aj 2 rfl rfl (by kernel_rfl) (by kernel_rfl) (by kernel_rfl) rfl hS (cK rfl rfl) ?_
 refine aj 3 rfl rfl (by kernel_rfl) (by kernel_rfl) (by kernel_rfl) rfl hS (ac rfl) ?_
 refine jy (t := 45) rfl ?_ ?_
 intro g9_4
 obtain rfl : w1 = true := by
  rcases hq2 with z | z
  exact absurd z (by omega)
  exact z
 obtain ⟨ha1, hq1, hj1, u1, rfl, hl1⟩ := hr1 rfl
 refine aj 4 rfl rfl (by kernel_rfl) (by kernel_rfl) (by kernel_rfl) rfl hS (al rfl eG rfl az rfl (by first | exact Nat.zero_add _ | rfl)) ?_
 refine aj 5 rfl rfl (by kernel_rfl) (by kernel_rfl) (by kernel_rfl) rfl hS (ao aQ rfl (by first | exact aD (k := 0) rfl rfl | exact aD (k := 1) rfl rfl | exact aD (k := 2) rfl rfl | exact aD (k := 3) rfl rfl)) ?_
 refine aj 6 rfl rfl (by kernel_rfl) (by kernel_rfl) (by kernel_rfl) rfl hS (al rfl bw rfl dD rfl (by first | exact Nat.zero_add _ | rfl)) ?_
 refine aj 7 rfl rfl (by kernel_rfl) (by kernel_rfl) (by kernel_rfl) rfl hS (ao dN rfl (by first | exact aD (k := 0) rfl rfl | exact aD (k := 1) rfl rfl | exact aD (k := 2) rfl rfl | exact aD (k := 3) rfl rfl)) ?_
 refine aj 8 rfl rfl (by kernel_rfl) (by kernel_rfl) (by kernel_rfl) rfl hS (al rfl eG rfl az rfl (by first | exact Nat.zero_add _ | rfl)) ?_
 refine aj 9 rfl rfl (by kernel_rfl) (by kernel_rfl) (by kernel_rfl) rfl hS (ao aQ rfl (by first | exact aD (k := 0) rfl rfl | exact aD (k := 1) rfl rfl | exact aD (k := 2) rfl rfl | exact aD (k := 3) rfl rfl)) ?_
 refine aj 10 rfl rfl (by kernel_rfl) (by kernel_rfl) (by kernel_rfl) rfl hS (dH dq eH rfl ha1 rfl hq1 hj1 (by first | exact Nat.zero_add _ | rfl)) ?_
 refine aj 11 rfl rfl (by kernel_rfl) (by kernel_rfl) (by kernel_rfl) rfl hS (al rfl dV rfl az rfl (by first | exact Nat.zero_add _ | rfl)) ?_
 refine aj 12 rfl rfl (by kernel_rfl) (by kernel_rfl) (by kernel_rfl) rfl hS (ao aQ rfl (fv (k := 2) (j := 0) rfl rfl)) ?_
 refine aj 13 rfl rfl (by kernel_rfl) (by kernel_rfl) (by kernel_rfl) rfl hS (bI rfl rfl) ?_
 refine aj 14 rfl rfl (by kernel_rfl) (by kernel_rfl) (by kernel_rfl) rfl hS (aY rfl rfl) ?_
 refine bL (by kernel_rfl) ?_; clear hS
 refine ab ?_
 refine aw rfl ?_ ?_
 intro c9
 refine ae (ah (aa rfl (ac rfl) (aa rfl (ai rfl) (aa rfl (ai rfl) (ag (ab (av (aE (au (.inl rfl) (.cons (ak rfl) (.cons (ak rfl) .nil)) ?_)))))))))
 rw [hbad (by rw [hW, hv2, hl1, decide_eq_true (show p ≠ u1.1 by omega)]; simp_all)]
 exact ⟨_, ⟨_, rfl, rfl⟩, inferInstance⟩
 intro c9
 refine aB (ab ?_)
 refine dz () ?_ ?_ ?_
 refine ⟨hv2, ?_⟩
 first
   | (left; rcases hq2 with z | z
      · exact z
      · exact absurd (hlt z) (by omega))
   | exact .inr ⟨rfl, by rw [hl1]; omega⟩
 · repeat (first | exact aX | refine aV rfl ?_)
 exact inferInstance
 intro g9_4
 refine bz 4 rfl rfl (by kernel_rfl) (by kernel_rfl) (by kernel_rfl) rfl hS ?_
 refine bz 5 rfl rfl (by kernel_rfl) (by kernel_rfl) (by kernel_rfl) rfl hS ?_
 refine bz 6 rfl rfl (by kernel_rfl) (by kernel_rfl) (by kernel_rfl) rfl hS ?_
 refine bz 7 rfl rfl (by kernel_rfl) (by kernel_rfl) (by kernel_rfl) rfl hS ?_
 refine bz 8 rfl rfl (by kernel_rfl) (by kernel_rfl) (by kernel_rfl) rfl hS ?_
 refine bz 9 rfl rfl (by kernel_rfl) (by kernel_rfl) (by kernel_rfl) rfl hS ?_
 refine bz 10 rfl rfl (by kernel_rfl) (by kernel_rfl) (by kernel_rfl) rfl hS ?_
 refine bz 11 rfl rfl (by kernel_rfl) (by kernel_rfl) (by kernel_rfl) rfl hS ?_
 refine bz 12 rfl rfl (by kernel_rfl) (by kernel_rfl) (by kernel_rfl) rfl hS ?_
 refine bz 13 rfl rfl (by kernel_rfl) (by kernel_rfl) (by kernel_rfl) rfl hS ?_
 refine aj 14 rfl rfl (by kernel_rfl) (by kernel_rfl) (by kernel_rfl) rfl hS (aM rfl rfl) ?_
 refine bL (by kernel_rfl) ?_; clear hS
 refine ab (eY rfl (aB (ab ?_)))
 refine dz () ?_ ?_ ?_
 refine ⟨hv2, ?_⟩
 first
   | (left; rcases hq2 with z | z
      · exact z
      · exact absurd (hlt z) (by omega))
   | exact .inr ⟨rfl, by rw [hl1]; omega⟩
 · repeat (first | exact aX | refine aV rfl ?_)
 exact inferInstance
 intro _ ⟨hv2, hcut⟩
 rw [hv2, show (!true) = false from rfl, Bool.false_or] at hW
 refine ae (ah (aa rfl (ai rfl) (ag (ab (aW ?_)))))
 refine cT (fun k : Nat => k ≤ i ∧ ∀ j, j < k → 0 ≤ q → (c.pl.getD j (0, 0)).2 ≠ q) (fun k => [(1, .pointer (some ⟨b1, 0, none⟩)), (4, .int .i64 i), (5, .pointer (some ⟨bx, 0, none⟩)), (6, .int .i64 k)]) (fun _ => pt bx (ax (dj (p, q)) 146) :: pt b1 (dd c) :: R) (fun k => i - k) 0 ?_ ?_ ?_ ?_
 exact ⟨Nat.zero_le _, fun j hj => absurd hj (Nat.not_lt_zero _)⟩
 · repeat (first | exact aX | refine aV rfl ?_)
 exact inferInstance
 intro k ⟨hk, hK⟩
 refine ae (ae (ah (aa rfl (ac rfl) (aa rfl (ac rfl) (aa rfl (b0 rfl rfl) (ag (ab ?_)))))))
 refine aw rfl ?_ ?_
 intro c12
 refine aB (ab (ae (aW (ae ?_))))
 have hk1 : k < c.pl.length := by omega
 obtain ⟨g2, o2, hga2, hc2⟩ := (h.p []).at_ hk1
 obtain ⟨⟨p2, q2⟩, hx2⟩ : ∃ x, c.pl[k] = x := ⟨_, rfl⟩
 have hgd2 : c.pl.getD k (0, 0) = (p2, q2) := by simp [List.getD, hk1, hx2]
 have htk : q2 = q → i6 c q i = true := fun z => wc (j := k) (by omega) hk1 (by rw [hx2]; exact z)
 rw [hx2] at hc2
 refine cA [(b1, 0, bU c), (bx, 0, dj (p, q)), (g2, o2 + k * 2, dj (p2, q2))] 14 cz rfl (aK (aK (cW hc2.weak aJ))) (fun hS => ?_)
 refine aj 0 rfl rfl (by kernel_rfl) (by kernel_rfl) (by kernel_rfl) rfl hS (al rfl eG rfl az rfl (by first | exact Nat.zero_add _ | rfl)) ?_
 refine aj 1 rfl rfl (by kernel_rfl) (by kernel_rfl) (by kernel_rfl) rfl hS (ao aQ rfl (by first | exact aD (k := 0) rfl rfl | exact aD (k := 1) rfl rfl | exact aD (k := 2) rfl rfl | exact aD (k := 3) rfl rfl | exact aD (k := 4) rfl rfl)) ?_
 refine aj 2 rfl rfl (by kernel_rfl) (by kernel_rfl) (by kernel_rfl) rfl hS (cK rfl rfl) ?_
 refine aj 3 rfl rfl (by kernel_rfl) (by kernel_rfl) (by kernel_rfl) rfl hS (ac rfl) ?_
 refine jy (t := 66) rfl ?_ ?_
 intro g14_4
 refine aj 4 rfl rfl (by kernel_rfl) (by kernel_rfl) (by kernel_rfl) rfl hS (al rfl bw rfl fX rfl (by first | exact Nat.zero_add _ | rfl)) ?_
 refine aj 5 rfl rfl (by kernel_rfl) (by kernel_rfl) (by kernel_rfl) rfl hS (ao iC rfl (by first | exact aD (k := 0) rfl rfl | exact aD (k := 1) rfl rfl | exact aD (k := 2) rfl rfl | exact aD (k := 3) rfl rfl | exact aD (k := 4) rfl rfl)) ?_
 refine aj 6 rfl rfl (by kernel_rfl) (by kernel_rfl) (by kernel_rfl) rfl hS (ac rfl) ?_
 refine aj 7 rfl rfl (by kernel_rfl) (by kernel_rfl) (by kernel_rfl) rfl hS (dH f8 fe rfl hga2 rfl rfl hk1 (by first | exact Nat.zero_add _ | rfl)) ?_
 refine aj 8 rfl rfl (by kernel_rfl) (by kernel_rfl) (by kernel_rfl) rfl hS (al rfl eG rfl az rfl (by first | exact Nat.zero_add _ | rfl)) ?_
 refine aj 9 rfl rfl (by kernel_rfl) (by kernel_rfl) (by kernel_rfl) rfl hS (ao aQ rfl (fv (k := 2) (j := 1) rfl rfl)) ?_
 refine aj 10 rfl rfl (by kernel_rfl) (by kernel_rfl) (by kernel_rfl) rfl hS (al rfl eG rfl az rfl (by first | exact Nat.zero_add _ | rfl)) ?_
 refine aj 11 rfl rfl (by kernel_rfl) (by kernel_rfl) (by kernel_rfl) rfl hS (ao aQ rfl (by first | exact aD (k := 0) rfl rfl | exact aD (k := 1) rfl rfl | exact aD (k := 2) rfl rfl | exact aD (k := 3) rfl rfl | exact aD (k := 4) rfl rfl)) ?_
 refine aj 12 rfl rfl (by kernel_rfl) (by kernel_rfl) (by kernel_rfl) rfl hS (cu rfl rfl) ?_
 refine aj 13 rfl rfl (by kernel_rfl) (by kernel_rfl) (by kernel_rfl) rfl hS (aY rfl rfl) ?_
 refine bL (by kernel_rfl) ?_; clear hS
 refine ab ?_
 refine aw rfl ?_ ?_
 intro c14
 refine ae (ah (aa rfl (ac rfl) (aa rfl (ai rfl) (aa rfl (ai rfl) (ag (ab (av (bj (aE (aE (bj (bj (aE (aE (bj (aE (au (.inl rfl) (.cons (ak rfl) (.cons (ak rfl) .nil)) ?_)))))))))))))))))
 have hz : w1 = true := by
  rcases hcut with z | z
  omega
  exact z.1
 rw [hbad (by rw [hW, htk (by omega), decide_eq_true (by omega)]; simp)]
 exact ⟨_, ⟨_, rfl, rfl⟩, inferInstance⟩
 intro c14
 refine aB (bH (ab (ah (aa rfl (ac rfl) ?_))))
 refine aa rfl (bF rfl rfl (by first | exact aZ (by omega) | rfl)) ?_
 refine aa rfl (ai rfl) (ag (ab ?_))
 refine cG (k + 1) ?_ ?_ ?_ ?_
 refine ⟨by omega, fun j hj hq0 => ?_⟩
 rcases Nat.lt_or_ge j k with z | z
 exact hK j z hq0
 rw [show j = k by omega, hgd2]
 dsimp only
 omega
 omega
 · repeat (first | exact aX | refine aV rfl ?_)
 exact inferInstance
 intro g14_4
 refine bz 4 rfl rfl (by kernel_rfl) (by kernel_rfl) (by kernel_rfl) rfl hS ?_
 refine bz 5 rfl rfl (by kernel_rfl) (by kernel_rfl) (by kernel_rfl) rfl hS ?_
 refine bz 6 rfl rfl (by kernel_rfl) (by kernel_rfl) (by kernel_rfl) rfl hS ?_
 refine bz 7 rfl rfl (by kernel_rfl) (by kernel_rfl) (by kernel_rfl) rfl hS ?_
 refine bz 8 rfl rfl (by kernel_rfl) (by kernel_rfl) (by kernel_rfl) rfl hS ?_
 refine bz 9 rfl rfl (by kernel_rfl) (by kernel_rfl) (by kernel_rfl) rfl hS ?_
 refine bz 10 rfl rfl (by kernel_rfl) (by kernel_rfl) (by kernel_rfl) rfl hS ?_
 refine bz 11 rfl rfl (by kernel_rfl) (by kernel_rfl) (by kernel_rfl) rfl hS ?_
 refine bz 12 rfl rfl (by kernel_rfl) (by kernel_rfl) (by kernel_rfl) rfl hS ?_
 refine aj 13 rfl rfl (by kernel_rfl) (by kernel_rfl) (by kernel_rfl) rfl hS (aM rfl rfl) ?_
 refine bL (by kernel_rfl) ?_; clear hS
 refine ab (eY rfl (aB (bH (ab (ah (aa rfl (ac rfl) ?_))))))
 refine aa rfl (bF rfl rfl (by first | exact aZ (by omega) | rfl)) ?_
 refine aa rfl (ai rfl) (ag (ab ?_))
 refine cG (k + 1) ?_ ?_ ?_ ?_
 refine ⟨by omega, fun j hj hq0 => ?_⟩
 rcases Nat.lt_or_ge j k with z | z
 exact hK j z hq0
 rw [show j = k by omega, hgd2]
 dsimp only
 omega
 omega
 · repeat (first | exact aX | refine aV rfl ?_)
 exact inferInstance
 intro c12
 refine cj (bi (bi (co (bH (ab (ah (aa rfl (ac rfl) ?_)))))))
 refine aa rfl (bF rfl rfl (by first | exact aZ (by omega) | rfl)) ?_
 refine aa rfl (ai rfl) (ag (ab ?_))
 refine cG (i + 1) ?_ ?_ ?_ ?_
 refine ⟨by omega, hgood ?_⟩
 rw [hW]
 rcases hcut with z | ⟨z1, z2⟩
 rw [z]; rfl
 rw [z1, wd (fun j hj => hK j (by omega) (hlt z1)), decide_eq_false (by omega : ¬ p ≠ fy c q)]
 simp
 omega
 · repeat (first | exact aX | refine aV rfl ?_)
 exact inferInstance
 intro g7_11
 refine ap rfl rfl rfl rfl (ap rfl rfl rfl rfl (ap rfl rfl rfl rfl (ap rfl rfl rfl rfl (ar rfl rfl (aa rfl (aM rfl rfl) (aa rfl (aM rfl rfl) (ag (ab (eY rfl (aB (ab ?_)))))))))))
 refine gM (fun _ : Unit => v1 = true ∧ (q = -1 ∨ (w1 = true ∧ p = fy c q))) (fun _ => [(1, .pointer (some ⟨b1, 0, none⟩)), (4, .int .i64 i), (5, .pointer (some ⟨bx, 0, none⟩))]) (fun _ => pt bx (ax (dj (p, q)) 146) :: pt b1 (dd c) :: R) ?_ ?_
 skip
 refine ae ?_
 have hv2 : v1 = true := by simp_all
 have hq2 : q = -1 ∨ w1 = true := by
  by_cases z : q = -1
  exact .inl z
  right; simp_all
 refine cA [(b1, 0, bU c), (bx, 0, dj (p, q)), (g1, o1 + j1 * 3, vs1)] 15 cz rfl (aK (aK (cW (hcv1 _) aJ))) (fun hS => ?_)
 refine aj 0 rfl rfl (by kernel_rfl) (by kernel_rfl) (by kernel_rfl) rfl hS (al rfl eG rfl az rfl (by first | exact Nat.zero_add _ | rfl)) ?_
 refine aj 1 rfl rfl (by kernel_rfl) (by kernel_rfl) (by kernel_rfl) rfl hS (ao aQ rfl (by first | exact aD (k := 0) rfl rfl | exact aD (k := 1) rfl rfl | exact aD (k := 2) rfl rfl | exact aD (k := 3) rfl rfl)) ?_
 refine aj 2 rfl rfl (by kernel_rfl) (by kernel_rfl) (by kernel_rfl) rfl hS (cK rfl rfl) ?_
 refine aj 3 rfl rfl (by kernel_rfl) (by kernel_rfl) (by kernel_rfl) rfl hS (ac rfl) ?_
 refine jy (t := 45) rfl ?_ ?_
 intro g9_4
 obtain rfl : w1 = true := by
  rcases hq2 with z | z
  exact absurd z (by omega)
  exact z
 obtain ⟨ha1, hq1, hj1, u1, rfl, hl1⟩ := hr1 rfl
 refine aj 4 rfl rfl (by kernel_rfl) (by kernel_rfl) (by kernel_rfl) rfl hS (al rfl eG rfl az rfl (by first | exact Nat.zero_add _ | rfl)) ?_
 refine aj 5 rfl rfl (by kernel_rfl) (by kernel_rfl) (by kernel_rfl) rfl hS (ao aQ rfl (by first | exact aD (k := 0) rfl rfl | exact aD (k := 1) rfl rfl | exact aD (k := 2) rfl rfl | exact aD (k := 3) rfl rfl)) ?_
 refine aj 6 rfl rfl (by kernel_rfl) (by kernel_rfl) (by kernel_rfl) rfl hS (al rfl bw rfl dD rfl (by first | exact Nat.zero_add _ | rfl)) ?_
 refine aj 7 rfl rfl (by kernel_rfl) (by kernel_rfl) (by kernel_rfl) rfl hS (ao dN rfl (by first | exact aD (k := 0) rfl rfl | exact aD (k := 1) rfl rfl | exact aD (k := 2) rfl rfl | exact aD (k := 3) rfl rfl)) ?_
 refine aj 8 rfl rfl (by kernel_rfl) (by kernel_rfl) (by kernel_rfl) rfl hS (al rfl eG rfl az rfl (by first | exact Nat.zero_add _ | rfl)) ?_
 refine aj 9 rfl rfl (by kernel_rfl) (by kernel_rfl) (by kernel_rfl) rfl hS (ao aQ rfl (by first | exact aD (k := 0) rfl rfl | exact aD (k := 1) rfl rfl | exact aD (k := 2) rfl rfl | exact aD (k := 3) rfl rfl)) ?_
 refine aj 10 rfl rfl (by kernel_rfl) (by kernel_rfl) (by kernel_rfl) rfl hS (dH dq eH rfl ha1 rfl hq1 hj1 (by first | exact Nat.zero_add _ | rfl)) ?_
 refine aj 11 rfl rfl (by kernel_rfl) (by kernel_rfl) (by kernel_rfl) rfl hS (al rfl dV rfl az rfl (by first | exact Nat.zero_add _ | rfl)) ?_
 refine aj 12 rfl rfl (by kernel_rfl) (by kernel_rfl) (by kernel_rfl) rfl hS (ao aQ rfl (fv (k := 2) (j := 0) rfl rfl)) ?_
 refine aj 13 rfl rfl (by kernel_rfl) (by kernel_rfl) (by kernel_rfl) rfl hS (bI rfl rfl) ?_
 refine aj 14 rfl rfl (by kernel_rfl) (by kernel_rfl) (by kernel_rfl) rfl hS (aY rfl rfl) ?_
 refine bL (by kernel_rfl) ?_; clear hS
 refine ab ?_
 refine aw rfl ?_ ?_
 intro c9
 refine ae (ah (aa rfl (ac rfl) (aa rfl (ai rfl) (aa rfl (ai rfl) (ag (ab (av (aE (au (.inl rfl) (.cons (ak rfl) (.cons (ak rfl) .nil)) ?_)))))))))
 rw [hbad (by rw [hW, hv2, hl1, decide_eq_true (show p ≠ u1.1 by omega)]; simp_all)]
 exact ⟨_, ⟨_, rfl, rfl⟩, inferInstance⟩
 intro c9
 refine aB (ab ?_)
 refine dz () ?_ ?_ ?_
 refine ⟨hv2, ?_⟩
 first
   | (left; rcases hq2 with z | z
      · exact z
      · exact absurd (hlt z) (by omega))
   | exact .inr ⟨rfl, by rw [hl1]; omega⟩
 · repeat (first | exact aX | refine aV rfl ?_)
 exact inferInstance
 intro g9_4
 refine bz 4 rfl rfl (by kernel_rfl) (by kernel_rfl) (by kernel_rfl) rfl hS ?_
 refine bz 5 rfl rfl (by kernel_rfl) (by kernel_rfl) (by kernel_rfl) rfl hS ?_
 refine bz 6 rfl rfl (by kernel_rfl) (by kernel_rfl) (by kernel_rfl) rfl hS ?_
 refine bz 7 rfl rfl (by kernel_rfl) (by kernel_rfl) (by kernel_rfl) rfl hS ?_
 refine bz 8 rfl rfl (by kernel_rfl) (by kernel_rfl) (by kernel_rfl) rfl hS ?_
 refine bz 9 rfl rfl (by kernel_rfl) (by kernel_rfl) (by kernel_rfl) rfl hS ?_
 refine bz 10 rfl rfl (by kernel_rfl) (by kernel_rfl) (by kernel_rfl) rfl hS ?_
 refine bz 11 rfl rfl (by kernel_rfl) (by kernel_rfl) (by kernel_rfl) rfl hS ?_
 refine bz 12 rfl rfl (by kernel_rfl) (by kernel_rfl) (by kernel_rfl) rfl hS ?_
 refine bz 13 rfl rfl (by kernel_rfl) (by kernel_rfl) (by kernel_rfl) rfl hS ?_
 refine aj 14 rfl rfl (by kernel_rfl) (by kernel_rfl) (by kernel_rfl) rfl hS (aM rfl rfl) ?_
 refine bL (by kernel_rfl) ?_; clear hS
 refine ab (eY rfl (aB (ab ?_)))
 refine dz () ?_ ?_ ?_
 refine ⟨hv2, ?_⟩
 first
   | (left; rcases hq2 with z | z
      · exact z
      · exact absurd (hlt z) (by omega))
   | exact .inr ⟨rfl, by rw [hl1]; omega⟩
 · repeat (first | exact aX | refine aV rfl ?_)
 exact inferInstance
 intro _ ⟨hv2, hcut⟩
 rw [hv2, show (!true) = false from rfl, Bool.false_or] at hW
 refine ae (ah (aa rfl (ai rfl) (ag (ab (aW ?_)))))
 refine cT (fun k : Nat => k ≤ i ∧ ∀ j, j < k → 0 ≤ q → (c.pl.getD j (0, 0)).2 ≠ q) (fun k => [(1, .pointer (some ⟨b1, 0, none⟩)), (4, .int .i64 i), (5, .pointer (some ⟨bx, 0, none⟩)), (6, .int .i64 k)]) (fun _ => pt bx (ax (dj (p, q)) 146) :: pt b1 (dd c) :: R) (fun k => i - k) 0 ?_ ?_ ?_ ?_
 exact ⟨Nat.zero_le _, fun j hj => absurd hj (Nat.not_lt_zero _)⟩
 · repeat (first | exact aX | refine aV rfl ?_)
 exact inferInstance
 intro k ⟨hk, hK⟩
 refine ae (ae (ah (aa rfl (ac rfl) (aa rfl (ac rfl) (aa rfl (b0 rfl rfl) (ag (ab ?_)))))))
 refine aw rfl ?_ ?_
 intro c12
 refine aB (ab (ae (aW (ae ?_))))
 have hk1 : k < c.pl.length := by omega
 obtain ⟨g2, o2, hga2, hc2⟩ := (h.p []).at_ hk1
 obtain ⟨⟨p2, q2⟩, hx2⟩ : ∃ x, c.pl[k] = x := ⟨_, rfl⟩
 have hgd2 : c.pl.getD k (0, 0) = (p2, q2) := by simp [List.getD, hk1, hx2]
 have htk : q2 = q → i6 c q i = true := fun z => wc (j := k) (by omega) hk1 (by rw [hx2]; exact z)
 rw [hx2] at hc2
 refine cA [(b1, 0, bU c), (bx, 0, dj (p, q)), (g2, o2 + k * 2, dj (p2, q2))] 14 cz rfl (aK (aK (cW hc2.weak aJ))) (fun hS => ?_)
 refine aj 0 rfl rfl (by kernel_rfl) (by kernel_rfl) (by kernel_rfl) rfl hS (al rfl eG rfl az rfl (by first | exact Nat.zero_add _ | rfl)) ?_
 refine aj 1 rfl rfl (by kernel_rfl) (by kernel_rfl) (by kernel_rfl) rfl hS (ao aQ rfl (by first | exact aD (k := 0) rfl rfl | exact aD (k := 1) rfl rfl | exact aD (k := 2) rfl rfl | exact aD (k := 3) rfl rfl | exact aD (k := 4) rfl rfl)) ?_
 refine aj 2 rfl rfl (by kernel_rfl) (by kernel_rfl) (by kernel_rfl) rfl hS (cK rfl rfl) ?_
 refine aj 3 rfl rfl (by kernel_rfl) (by kernel_rfl) (by kernel_rfl) rfl hS (ac rfl) ?_
 refine jy (t := 66) rfl ?_ ?_
 intro g14_4
 refine aj 4 rfl rfl (by kernel_rfl) (by kernel_rfl) (by kernel_rfl) rfl hS (al rfl bw rfl fX rfl (by first | exact Nat.zero_add _ | rfl)) ?_
 refine aj 5 rfl rfl (by kernel_rfl) (by kernel_rfl) (by kernel_rfl) rfl hS (ao iC rfl (by first | exact aD (k := 0) rfl rfl | exact aD (k := 1) rfl rfl | exact aD (k := 2) rfl rfl | exact aD (k := 3) rfl rfl | exact aD (k := 4) rfl rfl)) ?_
 refine aj 6 rfl rfl (by kernel_rfl) (by kernel_rfl) (by kernel_rfl) rfl hS (ac rfl) ?_
 refine aj 7 rfl rfl (by kernel_rfl) (by kernel_rfl) (by kernel_rfl) rfl hS (dH f8 fe rfl hga2 rfl rfl hk1 (by first | exact Nat.zero_add _ | rfl)) ?_
 refine aj 8 rfl rfl (by kernel_rfl) (by kernel_rfl) (by kernel_rfl) rfl hS (al rfl eG rfl az rfl (by first | exact Nat.zero_add _ | rfl)) ?_
 refine aj 9 rfl rfl (by kernel_rfl) (by kernel_rfl) (by kernel_rfl) rfl hS (ao aQ rfl (fv (k := 2) (j := 1) rfl rfl)) ?_
 refine aj 10 rfl rfl (by kernel_rfl) (by kernel_rfl) (by kernel_rfl) rfl hS (al rfl eG rfl az rfl (by first | exact Nat.zero_add _ | rfl)) ?_
 refine aj 11 rfl rfl (by kernel_rfl) (by kernel_rfl) (by kernel_rfl) rfl hS (ao aQ rfl (by first | exact aD (k := 0) rfl rfl | exact aD (k := 1) rfl rfl | exact aD (k := 2) rfl rfl | exact aD (k := 3) rfl rfl | exact aD (k := 4) rfl rfl)) ?_
 refine aj 12 rfl rfl (by kernel_rfl) (by kernel_rfl) (by kernel_rfl) rfl hS (cu rfl rfl) ?_
 refine aj 13 rfl rfl (by kernel_rfl) (by kernel_rfl) (by kernel_rfl) rfl hS (aY rfl rfl) ?_
 refine bL (by kernel_rfl) ?_; clear hS
 refine ab ?_
 refine aw rfl ?_ ?_
 intro c14
 refine ae (ah (aa rfl (ac rfl) (aa rfl (ai rfl) (aa rfl (ai rfl) (ag (ab (av (bj (aE (aE (bj (bj (aE (aE (bj (aE (au (.inl rfl) (.cons (ak rfl) (.cons (ak rfl) .nil)) ?_)))))))))))))))))
 have hz : w1 = true := by
  rcases hcut with z | z
  omega
  exact z.1
 rw [hbad (by rw [hW, htk (by omega), decide_eq_true (by omega)]; simp)]
 exact ⟨_, ⟨_, rfl, rfl⟩, inferInstance⟩
 intro c14
 refine aB (bH (ab (ah (aa rfl (ac rfl) ?_))))
 refine aa rfl (bF rfl rfl (by first | exact aZ (by omega) | rfl)) ?_
 refine aa rfl (ai rfl) (ag (ab ?_))
 refine cG (k + 1) ?_ ?_ ?_ ?_
 refine ⟨by omega, fun j hj hq0 => ?_⟩
 rcases Nat.lt_or_ge j k with z | z
 exact hK j z hq0
 rw [show j = k by omega, hgd2]
 dsimp only
 omega
 omega
 · repeat (first | exact aX | refine aV rfl ?_)
 exact inferInstance
 intro g14_4
 refine bz 4 rfl rfl (by kernel_rfl) (by kernel_rfl) (by kernel_rfl) rfl hS ?_
 refine bz 5 rfl rfl (by kernel_rfl) (by kernel_rfl) (by kernel_rfl) rfl hS ?_
 refine bz 6 rfl rfl (by kernel_rfl) (by kernel_rfl) (by kernel_rfl) rfl hS ?_
 refine bz 7 rfl rfl (by kernel_rfl) (by kernel_rfl) (by kernel_rfl) rfl hS ?_
 refine bz 8 rfl rfl (by kernel_rfl) (by kernel_rfl) (by kernel_rfl) rfl hS ?_
 refine bz 9 rfl rfl (by kernel_rfl) (by kernel_rfl) (by kernel_rfl) rfl hS ?_
 refine bz 10 rfl rfl (by kernel_rfl) (by kernel_rfl) (by kernel_rfl) rfl hS ?_
 refine bz 11 rfl rfl (by kernel_rfl) (by kernel_rfl) (by kernel_rfl) rfl hS ?_
 refine bz 12 rfl rfl (by kernel_rfl) (by kernel_rfl) (by kernel_rfl) rfl hS ?_
 refine aj 13 rfl rfl (by kernel_rfl) (by kernel_rfl) (by kernel_rfl) rfl hS (aM rfl rfl) ?_
 refine bL (by kernel_rfl) ?_; clear hS
 refine ab (eY rfl (aB (bH (ab (ah (aa rfl (ac rfl) ?_))))))
 refine aa rfl (bF rfl rfl (by first | exact aZ (by omega) | rfl)) ?_
 refine aa rfl (ai rfl) (ag (ab ?_))
 refine cG (k + 1) ?_ ?_ ?_ ?_
 refine ⟨by omega, fun j hj hq0 => ?_⟩
 rcases Nat.lt_or_ge j k with z | z
 exact hK j z hq0
 rw [show j = k by omega, hgd2]
 dsimp only
 omega
 omega
 · repeat (first | exact aX | refine aV rfl ?_)
 exact inferInstance
 intro c12
 refine cj (bi (bi (co (bH (ab (ah (aa rfl (ac rfl) ?_)))))))
 refine aa rfl (bF rfl rfl (by first | exact aZ (by omega) | rfl)) ?_
 refine aa rfl (ai rfl) (ag (ab ?_))
 refine cG (i + 1) ?_ ?_ ?_ ?_
 refine ⟨by omega, hgood ?_⟩
 rw [hW]
 rcases hcut with z | ⟨z1, z2⟩
 rw [z]; rfl
 rw [z1, wd (fun j hj => hK j (by omega) (hlt z1)), decide_eq_false (by omega : ¬ p ≠ fy c q)]
 simp
 omega
 · repeat (first | exact aX | refine aV rfl ?_)
 exact inferInstance
 intro c4
 refine cj (bi (bi (co (ab (ae (ah (aa rfl (ai rfl) (aa rfl (ai rfl) (ag (ab (av (au (.inl rfl) (.cons (ak rfl) (.cons (ak rfl) .nil)) ?_))))))))))))
 obtain rfl : i = c.pl.length := by omega
 rw [i7, decide_eq_false (by omega), Bool.false_or, mZ hI]
 exact ⟨_, ⟨0, rfl, rfl⟩, inferInstance⟩
theorem p6 {c : Cfg} (h : f3 c = false) : c.nl.length ≤ 4 := by
 simp only [f3, Bool.or_eq_false_iff, decide_eq_false_iff_not] at h; omega
theorem se (W0 : World) (R : List HP) (c : Cfg) (h : CfOk W0 c) :
    aC Tryz.prog W0 75 [.agg (bU c).toArray] R (fun v B => ∃ at_, v = .tuple #[.int .i64 (fT c), .int .i64 at_] ∧ B = R) := by
 obtain ⟨w1, hw1⟩ : ∃ w, e8 c c.gate = w := ⟨_, rfl⟩
 have hG : gn c = if c.gate = -1 then decide (c.quota ≠ 0) else !(w1 && decide (0 ≤ c.quota ∧ c.quota ≤ 64)) := by rw [gn, hw1]
 obtain ⟨x0, hx0⟩ : ∃ x, fT c = x := ⟨_, rfl⟩
 obtain ⟨x1, hx1⟩ : ∃ x, fw c = x := ⟨_, rfl⟩
 obtain ⟨x2, hx2⟩ : ∃ x, gt c = x := ⟨_, rfl⟩
 obtain ⟨x3, hx3⟩ : ∃ x, i7 c = x := ⟨_, rfl⟩
 obtain ⟨x4, hx4⟩ : ∃ x, f3 c = x := ⟨_, rfl⟩
 obtain ⟨x5, hx5⟩ : ∃ x, i5 c = x := ⟨_, rfl⟩
 obtain ⟨x6, hx6⟩ : ∃ x, gn c = x := ⟨_, rfl⟩
 have hC : x0 = if c.cats < 0 ∨ 8 < c.cats then 12 else if x1 then 13 else if x2 then 14 else if x3 then 15 else if x4 then 16 else if x5 then 17 else if x6 then 18 else if 32 < dA c c.gl.length then 19 else 0 := by rw [← hx0, fT, hx1, hx2, hx3, hx4, hx5, hx6]
 rw [hx6] at hG
 rw [hx0]
 refine aG func75 ntmps75 rfl rfl ?_
 refine ae (ah (am rfl (bJ rfl) ?_))
 rintro _ _ ⟨b1, rfl, rfl⟩
 refine aa rfl (ai rfl) (aa rfl (ai rfl) (ag (ab (ae (ae (ah ?_))))))
 refine aa rfl (al rfl bw rfl az rfl (by first | exact Nat.zero_add _ | rfl)) ?_
 refine aa rfl (ao aQ rfl (aA rfl)) ?_
 refine aa rfl (b0 rfl rfl) (aa rfl (ac rfl) ?_)
 refine bC rfl rfl rfl ?_ ?_
 intro g1_4
 refine ap rfl rfl rfl rfl (ap rfl rfl rfl rfl (aa rfl (aY rfl rfl) (ag (ab (cg rfl (ae (ah (aa rfl (ai rfl) (aa rfl (ai rfl) (ag (ab (av (aE (au (.inl rfl) (.cons (ak rfl) (.cons (ak rfl) .nil)) ?_))))))))))))))
 rw [hC, if_pos (by omega)]
 exact ⟨_, ⟨0, rfl, rfl⟩, inferInstance⟩
 intro g1_4
 refine aa rfl (al rfl bw rfl az rfl (by first | exact Nat.zero_add _ | rfl)) ?_
 refine ar rfl rfl (aa rfl (ao aQ rfl (aA rfl)) ?_)
 refine ar rfl rfl (aa rfl (cy rfl rfl) (aa rfl (aM rfl rfl) (ag (ab ?_))))
 refine aw rfl ?_ ?_
 intro c1
 refine ae (ah (aa rfl (ai rfl) (aa rfl (ai rfl) (ag (ab (av (aE (au (.inl rfl) (.cons (ak rfl) (.cons (ak rfl) .nil)) ?_))))))))
 rw [hC, if_pos (by omega)]
 exact ⟨_, ⟨0, rfl, rfl⟩, inferInstance⟩
 intro c1
 refine aB (ab (ae ?_))
 rw [if_neg (by omega)] at hC
 refine ah (aa rfl (cp cn bN rfl rfl) ?_)
 refine am rfl (aU call185 rfl (Cn W0 _ c h)) ?_
 rintro _ B_ ⟨r1, rfl, hB_⟩
 obtain rfl := hB_.symm
 rw [hx1]
 refine aa rfl (ac rfl) (aa rfl (aS rfl rfl) (aa rfl (aS rfl rfl) (aa rfl (ai rfl) (aa rfl (ai rfl) (ag (ab (ae (ae (ah (aa rfl (ac rfl) (ag (ab ?_))))))))))))
 refine aw rfl ?_ ?_
 intro c4
 refine ae (ah (aa rfl (ac rfl) (aa rfl (ai rfl) (aa rfl (ai rfl) (ag (ab (av (aE (au (.inl rfl) (.cons (ak rfl) (.cons (ak rfl) .nil)) ?_)))))))))
 rw [hC, if_pos (by simpa using c4)]
 exact ⟨_, ⟨r1, rfl, rfl⟩, inferInstance⟩
 intro c4
 refine aB (ab (ae ?_))
 rw [if_neg (by simpa using c4)] at hC
 refine ah (aa rfl (cp cn bN rfl rfl) ?_)
 refine am rfl (aU call186 rfl (Co W0 _ c h)) ?_
 rintro _ B_ ⟨r2, rfl, hB_⟩
 obtain rfl := hB_.symm
 rw [hx2]
 refine aa rfl (ac rfl) (aa rfl (aS rfl rfl) (aa rfl (aS rfl rfl) (aa rfl (ai rfl) (aa rfl (ai rfl) (ag (ab (ae (ae (ah (aa rfl (ac rfl) (ag (ab ?_))))))))))))
 refine aw rfl ?_ ?_
 intro c7
 refine ae (ah (aa rfl (ac rfl) (aa rfl (ai rfl) (aa rfl (ai rfl) (ag (ab (av (aE (au (.inl rfl) (.cons (ak rfl) (.cons (ak rfl) .nil)) ?_)))))))))
 rw [hC, if_pos (by simpa using c7)]
 exact ⟨_, ⟨r2, rfl, rfl⟩, inferInstance⟩
 intro c7
 refine aB (ab (ae ?_))
 rw [if_neg (by simpa using c7)] at hC
 refine ah (aa rfl (cp cn bN rfl rfl) ?_)
 refine am rfl (aU call187 rfl (Cu W0 _ c h)) ?_
 rintro _ B_ ⟨r3, rfl, hB_⟩
 obtain rfl := hB_.symm
 rw [hx3]
 refine aa rfl (ac rfl) (aa rfl (aS rfl rfl) (aa rfl (aS rfl rfl) (aa rfl (ai rfl) (aa rfl (ai rfl) (ag (ab (ae (ae (ah (aa rfl (ac rfl) (ag (ab ?_))))))))))))
 refine aw rfl ?_ ?_
 intro c10
 refine ae (ah (aa rfl (ac rfl) (aa rfl (ai rfl) (aa rfl (ai rfl) (ag (ab (av (aE (au (.inl rfl) (.cons (ak rfl) (.cons (ak rfl) .nil)) ?_)))))))))
 rw [hC, if_pos (by simpa using c10)]
 exact ⟨_, ⟨r3, rfl, rfl⟩, inferInstance⟩
 intro c10
 refine aB (ab (ae ?_))
 rw [if_neg (by simpa using c10)] at hC
 refine ah (aa rfl (cp cn bN rfl rfl) ?_)
 refine am rfl (aU call188 rfl (Cs W0 _ c h)) ?_
 rintro _ B_ ⟨r4, rfl, hB_⟩
 obtain rfl := hB_.symm
 rw [hx4]
 refine aa rfl (ac rfl) (aa rfl (aS rfl rfl) (aa rfl (aS rfl rfl) (aa rfl (ai rfl) (aa rfl (ai rfl) (ag (ab (ae (ae (ah (aa rfl (ac rfl) (ag (ab ?_))))))))))))
 refine aw rfl ?_ ?_
 intro c13
 refine ae (ah (aa rfl (ac rfl) (aa rfl (ai rfl) (aa rfl (ai rfl) (ag (ab (av (aE (au (.inl rfl) (.cons (ak rfl) (.cons (ak rfl) .nil)) ?_)))))))))
 rw [hC, if_pos (by simpa using c13)]
 exact ⟨_, ⟨r4, rfl, rfl⟩, inferInstance⟩
 intro c13
 refine aB (ab (ae ?_))
 rw [if_neg (by simpa using c13)] at hC
 refine ah (aa rfl (cp cn bN rfl rfl) ?_)
 refine am rfl (aU call189 rfl (Cp W0 _ c h)) ?_
 rintro _ B_ ⟨r5, rfl, hB_⟩
 obtain rfl := hB_.symm
 rw [hx5]
 refine aa rfl (ac rfl) (aa rfl (aS rfl rfl) (aa rfl (aS rfl rfl) (aa rfl (ai rfl) (aa rfl (ai rfl) (ag (ab (ae (ae (ah (aa rfl (ac rfl) (ag (ab ?_))))))))))))
 refine aw rfl ?_ ?_
 intro c16
 refine ae (ah (aa rfl (ac rfl) (aa rfl (ai rfl) (aa rfl (ai rfl) (ag (ab (av (aE (au (.inl rfl) (.cons (ak rfl) (.cons (ak rfl) .nil)) ?_)))))))))
 rw [hC, if_pos (by simpa using c16)]
 exact ⟨_, ⟨r5, rfl, rfl⟩, inferInstance⟩
 intro c16
 refine aB (ab (ae (ae ?_)))
 rw [if_neg (by simpa using c16)] at hC
 refine ah ?_
 refine aa rfl (al rfl bw rfl az rfl (by first | exact Nat.zero_add _ | rfl)) ?_
 refine aa rfl (ao aQ rfl (aA rfl)) ?_
 refine aa rfl (bI rfl rfl) (aa rfl (ac rfl) ?_)
 refine cJ rfl rfl rfl ?_ ?_
 intro g18_4
 refine aa rfl (cp cn bN rfl rfl) ?_
 refine ar rfl rfl ?_
 refine aa rfl (al rfl bw rfl az rfl (by first | exact Nat.zero_add _ | rfl)) ?_
 refine ar rfl rfl (aa rfl (ao aQ rfl (aA rfl)) ?_)
 refine ar rfl rfl (am rfl (aU pO rfl (nt c c.gate)) ?_)
 rintro _ B_ ⟨rfl, hB_⟩
 obtain rfl := hB_.symm
 rw [hw1]
 refine ar rfl rfl (aa rfl (bM rfl) (aa rfl (aY rfl rfl) (aa rfl (ac rfl) ?_)))
 refine bC rfl rfl rfl ?_ ?_
 intro g18_11
 refine ap rfl rfl rfl rfl (ap rfl rfl rfl rfl (aa rfl (aY rfl rfl) (aa rfl (ac rfl) (ap rfl rfl rfl rfl (ap rfl rfl rfl rfl (ap rfl rfl rfl rfl (aa rfl (aY rfl rfl) (aa rfl (ac rfl) (ap rfl rfl rfl rfl (ap rfl rfl rfl rfl (ap rfl rfl rfl rfl (ap rfl rfl rfl rfl (fF rfl rfl rfl (fF rfl rfl rfl (fF rfl rfl rfl (ap rfl rfl rfl rfl (aa rfl (aY rfl rfl) (ag (ab (cg rfl (ae (ah (aa rfl (ai rfl) ?_)))))))))))))))))))))))
 refine aa rfl (ai rfl) (ag (ab (av (aE (au (.inl rfl) (.cons (ak rfl) (.cons (ak rfl) .nil)) ?_)))))
 have hz : x6 = true := by
  rw [hG]; split
  exact decide_eq_true (by first | omega | simp_all)
  first
    | (rw [decide_eq_false (by omega), Bool.and_false]; rfl)
    | simp_all
 rw [hC, hz]
 exact ⟨_, ⟨0, rfl, rfl⟩, inferInstance⟩
 intro g18_11
 refine aa rfl (al rfl bw rfl az rfl (by first | exact Nat.zero_add _ | rfl)) ?_
 refine ar rfl rfl (aa rfl (ao aQ rfl (aA rfl)) ?_)
 refine ar rfl rfl (aa rfl (b0 rfl rfl) (aa rfl (aM rfl rfl) (aa rfl (ac rfl) ?_)))
 refine bC rfl rfl rfl ?_ ?_
 intro g18_16
 refine ap rfl rfl rfl rfl (ap rfl rfl rfl rfl (aa rfl (aY rfl rfl) (aa rfl (ac rfl) (ap rfl rfl rfl rfl (ap rfl rfl rfl rfl (ap rfl rfl rfl rfl (ap rfl rfl rfl rfl (fF rfl rfl rfl (fF rfl rfl rfl (fF rfl rfl rfl (ap rfl rfl rfl rfl (aa rfl (aY rfl rfl) (ag (ab (cg rfl (ae (ah (aa rfl (ai rfl) (aa rfl (ai rfl) (ag (ab (av (aE ?_)))))))))))))))))))))))
 refine au (.inl rfl) (.cons (ak rfl) (.cons (ak rfl) .nil)) ?_
 have hz : x6 = true := by
  rw [hG]; split
  exact decide_eq_true (by first | omega | simp_all)
  first
    | (rw [decide_eq_false (by omega), Bool.and_false]; rfl)
    | simp_all
 rw [hC, hz]
 exact ⟨_, ⟨0, rfl, rfl⟩, inferInstance⟩
 intro g18_16
 refine aa rfl (al rfl bw rfl az rfl (by first | exact Nat.zero_add _ | rfl)) ?_
 refine ar rfl rfl (aa rfl (ao aQ rfl (aA rfl)) ?_)
 refine ar rfl rfl (aa rfl (cy rfl rfl) (aa rfl (aM rfl rfl) (aa rfl (ac rfl) ?_)))
 refine bC rfl rfl rfl ?_ ?_
 intro g18_21
 refine ap rfl rfl rfl rfl (ap rfl rfl rfl rfl (ap rfl rfl rfl rfl (fF rfl rfl rfl (fF rfl rfl rfl (fF rfl rfl rfl (ap rfl rfl rfl rfl (aa rfl (aY rfl rfl) (ag (ab (cg rfl (ae (ah (aa rfl (ai rfl) (aa rfl (ai rfl) (ag (ab (av (aE (au (.inl rfl) (.cons (ak rfl) (.cons (ak rfl) .nil)) ?_)))))))))))))))))))
 have hz : x6 = true := by
  rw [hG]; split
  exact decide_eq_true (by first | omega | simp_all)
  first
    | (rw [decide_eq_false (by omega), Bool.and_false]; rfl)
    | simp_all
 rw [hC, hz]
 exact ⟨_, ⟨0, rfl, rfl⟩, inferInstance⟩
 intro g18_21
 refine aa rfl (al rfl bw rfl az rfl (by first | exact Nat.zero_add _ | rfl)) ?_
 refine ar rfl rfl (aa rfl (ao aQ rfl (aA rfl)) ?_)
 refine ar rfl rfl (aa rfl (cu rfl rfl) (ar rfl rfl (aa rfl (ac rfl) ?_)))
 refine cJ rfl rfl rfl ?_ ?_
 intro g18_25
 refine aa rfl (al rfl bw rfl az rfl (by first | exact Nat.zero_add _ | rfl)) ?_
 refine ar rfl rfl (aa rfl (ao aQ rfl (aA rfl)) ?_)
 refine ar rfl rfl (aa rfl (bI rfl rfl) (ar rfl rfl (aa rfl (aY rfl rfl) (aa rfl (aM rfl rfl) (ag (ab ?_))))))
 refine aw rfl ?_ ?_
 intro c18
 refine ae (ah (aa rfl (ai rfl) (aa rfl (ai rfl) (ag (ab (av (aE (au (.inl rfl) (.cons (ak rfl) (.cons (ak rfl) .nil)) ?_))))))))
 have hz : x6 = true := by
  rw [hG]; split
  exact decide_eq_true (by first | omega | simp_all)
  first
    | (rw [decide_eq_false (by omega), Bool.and_false]; rfl)
    | simp_all
 rw [hC, hz]
 exact ⟨_, ⟨0, rfl, rfl⟩, inferInstance⟩
 intro c18
 refine aB (ab (ae (ae ?_)))
 have hz : x6 = false := by
  rw [hG]; split
  exact decide_eq_false (by first | omega | simp_all)
  rw [decide_eq_true (by omega)]; simp_all
 rw [hz] at hC
 have hgr : fw c = false := by rw [hx1]; simpa using c4
 have hri : f3 c = false := by rw [hx4]; simpa using c13
 obtain ⟨k1, k2, k3⟩ := lP hgr
 refine ah (aa rfl (cp cn bN rfl rfl) ?_)
 refine am rfl (aU nN rfl (lU W0 _ c h.g (fun g hg => (k3 g hg).2) (p6 hri) k2)) ?_
 rintro _ B_ ⟨rfl, hB_⟩
 obtain rfl := hB_.symm
 refine aa rfl (cy rfl rfl) (ag (ab ?_))
 refine aw rfl ?_ ?_
 intro c20
 refine ae (ah (aa rfl (ai rfl) (aa rfl (ai rfl) (ag (ab (av (aE (au (.inl rfl) (.cons (ak rfl) (.cons (ak rfl) .nil)) ?_))))))))
 rw [hC, if_neg (by decide), if_pos (by omega)]
 exact ⟨_, ⟨0, rfl, rfl⟩, inferInstance⟩
 intro c20
 refine aB (ab (ae (ah (aa rfl (ai rfl) (aa rfl (ai rfl) (ag (ab (av (au (.inl rfl) (.cons (ak rfl) (.cons (ak rfl) .nil)) ?_)))))))))
 rw [hC, if_neg (by decide), if_neg (by omega)]
 exact ⟨_, ⟨0, rfl, rfl⟩, inferInstance⟩
 intro g18_25
 refine ap rfl rfl rfl rfl (ap rfl rfl rfl rfl (ar rfl rfl (aa rfl (aM rfl rfl) (aa rfl (aM rfl rfl) (ag (ab (eY rfl (aB (ab (ae (ae ?_)))))))))))
 have hz : x6 = false := by
  rw [hG]; split
  exact decide_eq_false (by first | omega | simp_all)
  rw [decide_eq_true (by omega)]; simp_all
 rw [hz] at hC
 have hgr : fw c = false := by rw [hx1]; simpa using c4
 have hri : f3 c = false := by rw [hx4]; simpa using c13
 obtain ⟨k1, k2, k3⟩ := lP hgr
 refine ah (aa rfl (cp cn bN rfl rfl) ?_)
 refine am rfl (aU nN rfl (lU W0 _ c h.g (fun g hg => (k3 g hg).2) (p6 hri) k2)) ?_
 rintro _ B_ ⟨rfl, hB_⟩
 obtain rfl := hB_.symm
 refine aa rfl (cy rfl rfl) (ag (ab ?_))
 refine aw rfl ?_ ?_
 intro c20
 refine ae (ah (aa rfl (ai rfl) (aa rfl (ai rfl) (ag (ab (av (aE (au (.inl rfl) (.cons (ak rfl) (.cons (ak rfl) .nil)) ?_))))))))
 rw [hC, if_neg (by decide), if_pos (by omega)]
 exact ⟨_, ⟨0, rfl, rfl⟩, inferInstance⟩
 intro c20
 refine aB (ab (ae (ah (aa rfl (ai rfl) (aa rfl (ai rfl) (ag (ab (av (au (.inl rfl) (.cons (ak rfl) (.cons (ak rfl) .nil)) ?_)))))))))
 rw [hC, if_neg (by decide), if_neg (by omega)]
 exact ⟨_, ⟨0, rfl, rfl⟩, inferInstance⟩
 intro g18_4
 refine ap rfl rfl rfl rfl (ap rfl rfl rfl rfl (ap rfl rfl rfl rfl (ap rfl rfl rfl rfl (aa rfl (aM rfl rfl) (aa rfl (ac rfl) (ar rfl rfl ?_))))))
 refine aa rfl (al rfl bw rfl az rfl (by first | exact Nat.zero_add _ | rfl)) ?_
 refine ar rfl rfl (aa rfl (ao aQ rfl (aA rfl)) ?_)
 refine ar rfl rfl (aa rfl (b0 rfl rfl) (aa rfl (aM rfl rfl) (aa rfl (ac rfl) ?_)))
 refine bC rfl rfl rfl ?_ ?_
 intro g18_16
 refine ap rfl rfl rfl rfl (ap rfl rfl rfl rfl (aa rfl (aY rfl rfl) (aa rfl (ac rfl) (ap rfl rfl rfl rfl (ap rfl rfl rfl rfl (ap rfl rfl rfl rfl (ap rfl rfl rfl rfl (fF rfl rfl rfl (fF rfl rfl rfl (fF rfl rfl rfl (ap rfl rfl rfl rfl (aa rfl (aY rfl rfl) (ag (ab (cg rfl (ae (ah (aa rfl (ai rfl) (aa rfl (ai rfl) (ag (ab (av (aE ?_)))))))))))))))))))))))
 refine au (.inl rfl) (.cons (ak rfl) (.cons (ak rfl) .nil)) ?_
 have hz : x6 = true := by
  rw [hG]; split
  exact decide_eq_true (by first | omega | simp_all)
  first
    | (rw [decide_eq_false (by omega), Bool.and_false]; rfl)
    | simp_all
 rw [hC, hz]
 exact ⟨_, ⟨0, rfl, rfl⟩, inferInstance⟩
 intro g18_16
 refine aa rfl (al rfl bw rfl az rfl (by first | exact Nat.zero_add _ | rfl)) ?_
 refine ar rfl rfl (aa rfl (ao aQ rfl (aA rfl)) ?_)
 refine ar rfl rfl (aa rfl (cy rfl rfl) (aa rfl (aM rfl rfl) (aa rfl (ac rfl) ?_)))
 refine bC rfl rfl rfl ?_ ?_
 intro g18_21
 refine ap rfl rfl rfl rfl (ap rfl rfl rfl rfl (ap rfl rfl rfl rfl (fF rfl rfl rfl (fF rfl rfl rfl (fF rfl rfl rfl (ap rfl rfl rfl rfl (aa rfl (aY rfl rfl) (ag (ab (cg rfl (ae (ah (aa rfl (ai rfl) (aa rfl (ai rfl) (ag (ab (av (aE (au (.inl rfl) (.cons (ak rfl) (.cons (ak rfl) .nil)) ?_)))))))))))))))))))
 have hz : x6 = true := by
  rw [hG]; split
  exact decide_eq_true (by first | omega | simp_all)
  first
    | (rw [decide_eq_false (by omega), Bool.and_false]; rfl)
    | simp_all
 rw [hC, hz]
 exact ⟨_, ⟨0, rfl, rfl⟩, inferInstance⟩
 intro g18_21
 refine aa rfl (al rfl bw rfl az rfl (by first | exact Nat.zero_add _ | rfl)) ?_
 refine ar rfl rfl (aa rfl (ao aQ rfl (aA rfl)) ?_)
 refine ar rfl rfl (aa rfl (cu rfl rfl) (ar rfl rfl (aa rfl (ac rfl) ?_)))
 refine cJ rfl rfl rfl ?_ ?_
 intro g18_25
 refine aa rfl (al rfl bw rfl az rfl (by first | exact Nat.zero_add _ | rfl)) ?_
 refine ar rfl rfl (aa rfl (ao aQ rfl (aA rfl)) ?_)
 refine ar rfl rfl (aa rfl (bI rfl rfl) (ar rfl rfl (aa rfl (aY rfl rfl) (aa rfl (aM rfl rfl) (ag (ab ?_))))))
 refine aw rfl ?_ ?_
 intro c18
 refine ae (ah (aa rfl (ai rfl) (aa rfl (ai rfl) (ag (ab (av (aE (au (.inl rfl) (.cons (ak rfl) (.cons (ak rfl) .nil)) ?_))))))))
 have hz : x6 = true := by
  rw [hG]; split
  exact decide_eq_true (by first | omega | simp_all)
  first
    | (rw [decide_eq_false (by omega), Bool.and_false]; rfl)
    | simp_all
 rw [hC, hz]
 exact ⟨_, ⟨0, rfl, rfl⟩, inferInstance⟩
 intro c18
 refine aB (ab (ae (ae ?_)))
 have hz : x6 = false := by
  rw [hG]; split
  exact decide_eq_false (by first | omega | simp_all)
  rw [decide_eq_true (by omega)]; simp_all
 rw [hz] at hC
 have hgr : fw c = false := by rw [hx1]; simpa using c4
 have hri : f3 c = false := by rw [hx4]; simpa using c13
 obtain ⟨k1, k2, k3⟩ := lP hgr
 refine ah (aa rfl (cp cn bN rfl rfl) ?_)
 refine am rfl (aU nN rfl (lU W0 _ c h.g (fun g hg => (k3 g hg).2) (p6 hri) k2)) ?_
 rintro _ B_ ⟨rfl, hB_⟩
 obtain rfl := hB_.symm
 refine aa rfl (cy rfl rfl) (ag (ab ?_))
 refine aw rfl ?_ ?_
 intro c20
 refine ae (ah (aa rfl (ai rfl) (aa rfl (ai rfl) (ag (ab (av (aE (au (.inl rfl) (.cons (ak rfl) (.cons (ak rfl) .nil)) ?_))))))))
 rw [hC, if_neg (by decide), if_pos (by omega)]
 exact ⟨_, ⟨0, rfl, rfl⟩, inferInstance⟩
 intro c20
 refine aB (ab (ae (ah (aa rfl (ai rfl) (aa rfl (ai rfl) (ag (ab (av (au (.inl rfl) (.cons (ak rfl) (.cons (ak rfl) .nil)) ?_)))))))))
 rw [hC, if_neg (by decide), if_neg (by omega)]
 exact ⟨_, ⟨0, rfl, rfl⟩, inferInstance⟩
 intro g18_25
 refine ap rfl rfl rfl rfl (ap rfl rfl rfl rfl (ar rfl rfl (aa rfl (aM rfl rfl) (aa rfl (aM rfl rfl) (ag (ab (eY rfl (aB (ab (ae (ae ?_)))))))))))
 have hz : x6 = false := by
  rw [hG]; split
  exact decide_eq_false (by first | omega | simp_all)
  rw [decide_eq_true (by omega)]; simp_all
 rw [hz] at hC
 have hgr : fw c = false := by rw [hx1]; simpa using c4
 have hri : f3 c = false := by rw [hx4]; simpa using c13
 obtain ⟨k1, k2, k3⟩ := lP hgr
 refine ah (aa rfl (cp cn bN rfl rfl) ?_)
 refine am rfl (aU nN rfl (lU W0 _ c h.g (fun g hg => (k3 g hg).2) (p6 hri) k2)) ?_
 rintro _ B_ ⟨rfl, hB_⟩
 obtain rfl := hB_.symm
 refine aa rfl (cy rfl rfl) (ag (ab ?_))
 refine aw rfl ?_ ?_
 intro c20
 refine ae (ah (aa rfl (ai rfl) (aa rfl (ai rfl) (ag (ab (av (aE (au (.inl rfl) (.cons (ak rfl) (.cons (ak rfl) .nil)) ?_))))))))
 rw [hC, if_neg (by decide), if_pos (by omega)]
 exact ⟨_, ⟨0, rfl, rfl⟩, inferInstance⟩
 intro c20
 refine aB (ab (ae (ah (aa rfl (ai rfl) (aa rfl (ai rfl) (ag (ab (av (au (.inl rfl) (.cons (ak rfl) (.cons (ak rfl) .nil)) ?_)))))))))
 rw [hC, if_neg (by decide), if_neg (by omega)]
 exact ⟨_, ⟨0, rfl, rfl⟩, inferInstance⟩
theorem p7 (W0 : World) (R : List HP) (c : Cfg) (h : CfOk W0 c) :
    aC Tryz.prog W0 94 [.agg (bU c).toArray] R (fun v B => v = .bool (rt c) ∧ B = R) := by
 refine aG func94 ntmps94 rfl rfl ?_
 refine ae (ah (am rfl (bJ rfl) ?_))
 rintro _ _ ⟨b1, rfl, rfl⟩
 refine aa rfl (ai rfl) (ag (ab (ae (ah (aa rfl (cp cn bN rfl rfl) ?_)))))
 refine am rfl (aU xX rfl (se W0 _ c h)) ?_
 rintro _ B_ ⟨at_, rfl, hB_⟩
 obtain rfl := hB_.symm
 refine aa rfl (ac rfl) (aa rfl (aS rfl rfl) (aa rfl (aS rfl rfl) (aa rfl (ai rfl) (aa rfl (ai rfl) (ag (ab (ae (ah (aa rfl (ac rfl) (aa rfl (cu rfl rfl) (aa rfl (ai rfl) (ag (ab (av (au (.inl rfl) (.cons (ak rfl) .nil) ?_)))))))))))))))
 refine ⟨_, ⟨?_, rfl⟩, inferInstance⟩
 refine congrArg Value.bool ?_
 rw [Bool.eq_iff_iff, rt]; simp
end
section
def d5 (c : Cfg) (i : Nat) : Int × Int × Int := c.gl.getD i (0, 0, 0)
def df (c : Cfg) : Nat → Int
 | 0 => 0
 | i + 1 => df c i + ((d5 c i).2.1 + (d5 c i).2.2)
theorem kS (c : Cfg) : ∀ i, dA c i = df c i + (c.nl.length : Int)
 | 0 => by rw [dA, df, Int.zero_add]
 | i + 1 => by rw [dA, df, kS c i, d5]; omega
def fB (c : Cfg) (f : Int) : Option Nat := jl (fun i => decide (f < df c (i + 1))) c.gl.length
def bp (c : Cfg) : Nat := (dA c c.gl.length).toNat
def we (b f : Int) : Option Nat → Int × Int
 | some i => (1, (i : Int))
 | none => (2, f - b)
def j9 (c : Cfg) (f : Int) : Int × Int := if rt c = true ∧ 0 ≤ f ∧ f < dA c c.gl.length then we (df c c.gl.length) f (fB c f) else (0, 0)
structure CfR (c : Cfg) : Prop where
  g1 : 1 ≤ c.gl.length
  g4 : c.gl.length ≤ 4
  gs : ∀ i, i < c.gl.length → 1 ≤ (d5 c i).2.1 ∧ (d5 c i).2.1 ≤ 8 ∧ 0 ≤ (d5 c i).2.2 ∧ (d5 c i).2.2 ≤ 8 - (d5 c i).2.1
  nn : c.nl.length ≤ 4
  nd : 1 ≤ dA c c.gl.length ∧ dA c c.gl.length ≤ 32
theorem jH {c : Cfg} (h : ∀ i, i < c.gl.length → 1 ≤ (d5 c i).2.1 ∧ (d5 c i).2.1 ≤ 8 ∧ 0 ≤ (d5 c i).2.2 ∧ (d5 c i).2.2 ≤ 8 - (d5 c i).2.1) : ∀ i, i ≤ c.gl.length → (i : Int) ≤ df c i ∧ df c i ≤ 8 * i
 | 0, _ => by simp [df]
 | i + 1, hi => by
  have := jH h i (by omega)
  have := h i (by omega)
  rw [df]; omega
theorem Cv {c : Cfg} (h : CfR c) {i : Nat} (hi : i < c.gl.length) : df c i < df c (i + 1) := by
 have := h.gs i hi
 rw [df]; omega
theorem wi {c : Cfg} (h : CfR c) {i j : Nat} (hij : i ≤ j) (hj : j ≤ c.gl.length) : df c i ≤ df c j := by
 induction j with
 | zero => obtain rfl : i = 0 := by omega
           exact Int.le_refl _
 | succ j ih =>
  rcases Nat.lt_or_ge i (j + 1) with k | k
  have := ih (by omega) (by omega)
  have := Cv h (i := j) (by omega)
  omega
  obtain rfl : i = j + 1 := by omega
  exact Int.le_refl _
theorem fb {c : Cfg} (h : rt c = true) : CfR c := by
 obtain ⟨_, _, k1, _, _, k2, _, _, k3⟩ := jW h
 obtain ⟨g1, g4, gs⟩ := lP k1
 have hn : c.nl.length ≤ 4 := by
  simp only [f3, Bool.or_eq_false_iff, decide_eq_false_iff_not] at k2; omega
 have hg : ∀ i, i < c.gl.length → 1 ≤ (d5 c i).2.1 ∧ (d5 c i).2.1 ≤ 8 ∧ 0 ≤ (d5 c i).2.2 ∧ (d5 c i).2.2 ≤ 8 - (d5 c i).2.1 := fun i hi => by
  have := (gs _ (List.getElem_mem hi)).2
  rwa [show d5 c i = c.gl[i] by simp [d5, List.getD, hi]]
 have := jH hg c.gl.length (Nat.le_refl _)
 exact ⟨g1, g4, hg, hn, by rw [kS]; omega, k3⟩
theorem p8 {c : Cfg} (h : CfR c) {f : Int} {i : Nat} : (fB c f = some i ↔ i < c.gl.length ∧ f < df c (i + 1) ∧ (0 < i → df c i ≤ f)) := by
 rw [fB, jl, List.find?_eq_some_iff_getElem]
 simp only [decide_eq_true_iff]
 constructor
 rintro ⟨h1, k, hk, rfl, h2⟩
 rw [List.getElem_range] at h1 ⊢
 simp only [List.length_range] at hk
 refine ⟨hk, h1, fun h0 => ?_⟩
 have := h2 (k - 1) (by omega)
 simp only [List.getElem_range, Bool.not_eq_true', decide_eq_false_iff_not] at this
 rw [show k - 1 + 1 = k by omega] at this
 omega
 rintro ⟨h1, h2, h3⟩
 refine ⟨h2, i, by simpa using h1, by simp, fun j hj => ?_⟩
 simp only [List.getElem_range, Bool.not_eq_true', decide_eq_false_iff_not]
 have := wi h (i := j + 1) (j := i) (by omega) (by omega)
 have := h3 (by omega)
 omega
def lV : Option Nat → Int × Bool
 | some i => ((i : Int), false)
 | none => (-1, false)
def d9 (c : Cfg) (k : Nat) : Po := (List.range (bp c)).map fun g => if g < k then lV (fB c g) else (-1, false)
theorem lW (c : Cfg) (k : Nat) : (d9 c k).length = bp c := by simp [d9]
theorem p9 {c : Cfg} {k f : Nat} (hf : f < bp c) : d7 (d9 c k) f = if f < k then lV (fB c f) else (-1, false) := by
 simp [d7, d9, List.getD, hf]
theorem wj (c : Cfg) : d9 c 0 = List.replicate (bp c) (-1, false) := by
 apply List.ext_getElem
 simp [d9]
 intro i h1 h2; simp [d9]
theorem wk {c : Cfg} {k i : Nat} (hk : k < bp c) (h : fB c k = some i) : d9 c (k + 1) = (d9 c k).set k ((i : Int), false) := by
 apply List.ext_getElem
 simp [d9]
 intro j h1 h2
 rw [List.getElem_set]
 simp only [d9, List.getElem_map, List.getElem_range]
 by_cases e : k = j
 subst e; simp [h, lV]
 rw [if_neg e]; congr 1; simp; omega
theorem wl {c : Cfg} {k : Nat} (h : fB c k = none) : d9 c (k + 1) = d9 c k := by
 apply List.ext_getElem
 simp [d9]
 intro j h1 h2
 simp only [d9, List.getElem_map, List.getElem_range]
 by_cases e : j = k
 subst e; simp [h, lV]
 congr 1; simp; omega
theorem wm {c : Cfg} (h : CfR c) (k : Nat) : PoOk (d9 c k) := ⟨by rw [lW, bp]; have := h.nd; omega, fun f hf => by
 rw [lW] at hf
 rw [p9 hf]
 split
 cases e : fB c f with
 | none => simp [lV]
 | some i =>
  have := ((p8 h).1 e).1
  have := h.g4
  simp only [lV]; omega
 simp⟩
theorem wn : ∀ {l m : List Nat}, l.Nodup → (∀ x ∈ l, x ∈ m) → l.length ≤ m.length
 | [], _, _, _ => Nat.zero_le _
 | x :: l, m, hd, h => by
  rw [List.nodup_cons] at hd
  have hx := h x (by simp)
  have := wn (l := l) (m := m.erase x) hd.2 fun y hy => by
   have hne : y ≠ x := fun e => hd.1 (by rw [← e]; exact hy)
   rw [List.mem_erase_of_ne hne]
   exact h y (List.mem_cons_of_mem _ hy)
  rw [List.length_erase_of_mem hx] at this
  have := List.length_pos_of_mem hx
  rw [List.length_cons]; omega
theorem Cw {c : Cfg} (h : CfR c) {i : Nat} (hi : i < c.gl.length) : (d5 c i).2.1 + (d5 c i).2.2 ≤ ((bP (d9 c (bp c)) i).length : Int) := by
 obtain ⟨a, ha⟩ : ∃ a : Nat, df c i = (a : Int) := ⟨(df c i).toNat, by have := jH h.gs i (by omega); omega⟩
 have hg := h.gs i hi
 obtain ⟨n, hn⟩ : ∃ n : Nat, (d5 c i).2.1 + (d5 c i).2.2 = (n : Int) := ⟨((d5 c i).2.1 + (d5 c i).2.2).toNat, by omega⟩
 have hs : df c (i + 1) = (a : Int) + n := by rw [df, ha, hn]
 have hl := wi h (i := i + 1) (j := c.gl.length) (by omega) (Nat.le_refl _)
 have hnd := kS c c.gl.length
 have hsub : ∀ x ∈ List.range' a n, x ∈ bP (d9 c (bp c)) i := fun x hx => by
  rw [List.mem_range'_1] at hx
  have hxn : x < bp c := by rw [bp]; omega
  rw [i3, lW, p9 hxn, if_pos hxn, (p8 h (i := i)).2 ⟨hi, by omega, fun _ => by omega⟩]
  exact ⟨hxn, rfl⟩
 have hd : (List.range' a n).Nodup := List.nodup_range' ..
 have := wn hd hsub
 rw [List.length_range'] at this
 rw [hn]; omega
end
section
open Go.RowKit
structure CfK (W0 : World) (c : Cfg) : Prop where
  ok : CfOk W0 c
  gc : c.gl.length ≤ c.gc
theorem pd {c : Cfg} (h : CfR c) : (∀ g ∈ c.gl, 1 ≤ g.2.1 ∧ g.2.1 ≤ 8 ∧ 0 ≤ g.2.2 ∧ g.2.2 ≤ 8 - g.2.1) := fun g hg => by
 obtain ⟨i, hi, rfl⟩ := List.getElem_of_mem hg
 have := h.gs i hi
 rwa [show d5 c i = c.gl[i] by simp [d5, List.getD, hi]] at this
def i9 (c : Cfg) : Nat := if rt c then bp c else 0
theorem wo (c : Cfg) : i9 c ≤ 32 := by
 unfold i9; split
 rename_i h; have := (fb h).nd; rw [bp]; omega
 omega
theorem Cx (W0 : World) (R : List HP) (c : Cfg) (h : CfOk W0 c) :
    aC Tryz.prog W0 47 [.agg (bU c).toArray] R (fun v B => v = .int .i64 (i9 c : Nat) ∧ B = R) := by
 refine aG func47 ntmps47 rfl rfl ?_
 refine ae (ah (am rfl (bJ rfl) ?_))
 rintro _ _ ⟨b1, rfl, rfl⟩
 refine aa rfl (ai rfl) (ag (ab (ae (ae (ah (aa rfl (cp cn bN rfl rfl) ?_))))))
 refine am rfl (aU xY rfl (rM W0 _ c h)) ?_
 rintro _ B_ ⟨rfl, hB_⟩
 obtain rfl := hB_.symm
 refine aa rfl (bM rfl) (ag (ab ?_))
 refine aw rfl ?_ ?_
 intro c1
 refine ae (ah (aa rfl (ai rfl) (ag (ab (av (aE (au (.inl rfl) (.cons (ak rfl) .nil) ?_)))))))
 have hr : rt c = false := by simpa using c1
 rw [i9, hr]
 exact ⟨_, ⟨rfl, rfl⟩, inferInstance⟩
 intro c1
 have hr : rt c = true := by simpa using c1
 have hR := fb hr
 refine aB (ab (ae (ah (aa rfl (cp cn bN rfl rfl) ?_))))
 refine am rfl (aU xM rfl (rB W0 _ c h.g (pd hR) hR.nn hR.g4)) ?_
 rintro _ B_ ⟨rfl, hB_⟩
 obtain rfl := hB_.symm
 refine aa rfl (ai rfl) (ag (ab (av (au (.inl rfl) (.cons (ak rfl) .nil) ?_))))
 have hn : ((i9 c : Nat) : Int) = dA c c.gl.length := by
  have := hR.nd
  rw [i9, if_pos hr, bp]; omega
 rw [hn]
 exact ⟨_, ⟨rfl, rfl⟩, inferInstance⟩
theorem sf (W0 : World) (R : List HP) (c : Cfg) (h : CfK W0 c) (hR : CfR c) (n : Nat) (hn : n ≤ c.gl.length) :
    aC Tryz.prog W0 256 [.agg (bU c).toArray, .int .i64 n] R (fun v B => v = .int .i64 (df c n) ∧ B = R) := by
 have hgc := h.gc
 have hg4 := hR.g4
 refine aG func256 ntmps256 rfl rfl ?_
 refine ae (ah (am rfl (bJ rfl) ?_))
 rintro _ _ ⟨b1, rfl, rfl⟩
 refine aa rfl (ai rfl) (ag (ab (ae (ah (aa rfl (ai rfl) (ag (ab (ae (ae (ah ?_))))))))))
 refine aa rfl (al rfl bw rfl dD rfl (by first | exact Nat.zero_add _ | rfl)) ?_
 refine aa rfl (ao dN rfl (aA rfl)) ?_
 refine aa rfl (ac rfl) ?_
 refine aa rfl (kB dq eH rfl rfl (h := n) rfl (by omega)) ?_
 refine aa rfl (bu dq rfl) (aa rfl (ac rfl) (ag (ab (aW ?_))))
 refine cT (fun i : Nat => i ≤ n) (fun i => [(5, .int .i64 (df c i)), (11, .slice c.ga n c.gc), (12, .int .i64 n), (13, .int .i64 i)]) (fun _ => R) (fun i => n - i) 0 ?_ ?_ ?_ ?_
 exact Nat.zero_le _
 · repeat (first | exact aX | refine aV rfl ?_)
 exact inferInstance
 intro i hi
 refine ae (ah (aa rfl (b0 rfl rfl) (ag (ab (ae ?_)))))
 refine aw rfl ?_ ?_
 intro c3
 refine aB (ab (ae (aW (ae ?_))))
 have hi1 : i < c.gl.length := by omega
 have hin : i < n := by omega
 obtain ⟨g, o, hga, hc⟩ := (h.ok.g R).at_ hi1
 obtain ⟨x, hx⟩ : ∃ x, c.gl[i] = x := ⟨_, rfl⟩
 rw [hx] at hc
 have hA : d5 c i = x := by simp [d5, List.getD, hi1, hx]
 have hbx := hR.gs i hi1
 rw [hA] at hbx
 have hst : df c (i + 1) = df c i + (x.2.1 + x.2.2) := by rw [df, hA]
 have hl1 := jH hR.gs i (by omega)
 refine ah ?_
 refine aa rfl (dH dq eH rfl hga rfl rfl hin (by first | exact Nat.zero_add _ | rfl)) ?_
 refine aa rfl (cV t7 eH rfl hc.weak rfl) ?_
 refine am rfl (cM mc) ?_
 rintro _ _ ⟨bx, rfl, rfl⟩
 refine bD (cD eH rfl rfl rfl rfl rfl) ?_
 rintro _ _ rfl
 refine ag (ab (ah (aa rfl (ac rfl) ?_)))
 refine aa rfl (al rfl dV rfl az rfl (by first | exact Nat.zero_add _ | rfl)) ?_
 refine aa rfl (ao aQ rfl (aA rfl)) ?_
 refine aa rfl (al rfl dV rfl az rfl (by first | exact Nat.zero_add _ | rfl)) ?_
 refine aa rfl (ao aQ rfl (aA rfl)) ?_
 refine aa rfl (bF rfl rfl (aZ (by omega))) ?_
 refine aa rfl (bF rfl rfl (by rw [aZ (by omega)]; exact hst.symm : IntKind.wrap .i64 (df c i + (x.2.1 + x.2.2)) = df c (i + 1))) ?_
 refine aa rfl (ai rfl) (ag (bH (ab (ah ?_))))
 refine aa rfl (bF rfl rfl (by first | exact aZ (by omega) | rfl)) ?_
 refine aa rfl (ac rfl) (ag (ab ?_))
 refine cG (i + 1) ?_ ?_ ?_ ?_
 omega
 omega
 · repeat (first | exact aX | refine aV rfl ?_)
 exact inferInstance
 intro c3
 refine cj (bi (bi (co (ab (ae (ah (aa rfl (ac rfl) (aa rfl (ai rfl) (ag (ab (av (au (.inl rfl) (.cons (ak rfl) .nil) ?_))))))))))))
 obtain rfl : i = n := by omega
 exact ⟨_, ⟨rfl, rfl⟩, inferInstance⟩
theorem wq {c : Cfg} {f : Int} {i : Nat} (hi : i < c.gl.length) (h : f < df c (i + 1)) (hI : ∀ j, j < i → ¬ f < df c (j + 1)) : fB c f = some i :=
  vh hi (decide_eq_true h) fun j hj => decide_eq_false (hI j hj)
theorem wt {c : Cfg} {f : Int} (hI : ∀ j, j < c.gl.length → ¬ f < df c (j + 1)) : fB c f = none := vj fun j hj => decide_eq_false (hI j hj)
@[reducible] def pf (x : Int × Int) : List Value := [.int .i64 x.1, .int .i64 x.2]
theorem Cy (W0 : World) (R : List HP) (c : Cfg) (h : CfK W0 c) (f : Nat) :
    aC Tryz.prog W0 122 [.agg (bU c).toArray, .int .i64 f] R (fun v B => v = .agg (pf (j9 c f)).toArray ∧ B = R) := by
 obtain ⟨w, hw⟩ : ∃ w, rt c = w := ⟨_, rfl⟩
 have hO : j9 c f = if w = true ∧ 0 ≤ (f : Int) ∧ (f : Int) < dA c c.gl.length then we (df c c.gl.length) f (fB c f) else (0, 0) := by rw [j9, hw]
 rw [hO]
 refine aG func122 ntmps122 rfl rfl ?_
 refine ae (ah (am rfl (bJ rfl) ?_))
 rintro _ _ ⟨b2, rfl, rfl⟩
 refine am rfl (cM jt) ?_
 rintro _ _ ⟨b4, rfl, rfl⟩
 refine ag (ab (ae (ae (ah (aa rfl (cp cn bN rfl rfl) ?_)))))
 refine am rfl (aU xY rfl (rM W0 _ c h.ok)) ?_
 rintro _ B_ ⟨rfl, hB_⟩
 obtain rfl := hB_.symm
 rw [hw]
 refine aa rfl (bM rfl) (aa rfl (ac rfl) ?_)
 refine bC rfl rfl rfl ?_ ?_
 · intro g1_4
   refine ap rfl rfl rfl rfl (aa rfl (aY rfl rfl) (aa rfl (ac rfl) (ap rfl rfl rfl rfl (ap rfl rfl rfl rfl (ap rfl rfl rfl rfl (ap rfl rfl rfl rfl (aa rfl (aY rfl rfl) (ag (ab (cg rfl (ae (ah (aa rfl (bY ju jt (aH az (aH az bX)) bW) ?_)))))))))))))
   refine bD (cD gX rfl rfl rfl rfl rfl) ?_
   rintro _ _ rfl
   refine ag (ab (av (aE (au (.inl rfl) (.cons (fG mg gX rfl rfl) .nil) ?_))))
   rw [if_neg (by first | (rintro ⟨q1, q2, q3⟩; omega) | (rintro ⟨q1, q2⟩; simp_all; done) | (rintro ⟨q1, q2, q3⟩; simp_all; omega))]
   exact ⟨_, ⟨rfl, rfl⟩, inferInstance⟩
 intro g1_4
 refine aa rfl (ac rfl) (ar rfl rfl (aa rfl (b0 rfl rfl) (aa rfl (aM rfl rfl) (aa rfl (ac rfl) ?_))))
 refine bC rfl rfl rfl ?_ ?_
 · intro g1_8
   refine ap rfl rfl rfl rfl (ap rfl rfl rfl rfl (ap rfl rfl rfl rfl (aa rfl (aY rfl rfl) (ag (ab (cg rfl (ae (ah (aa rfl (bY ju jt (aH az (aH az bX)) bW) ?_)))))))))
   refine bD (cD gX rfl rfl rfl rfl rfl) ?_
   rintro _ _ rfl
   refine ag (ab (av (aE (au (.inl rfl) (.cons (fG mg gX rfl rfl) .nil) ?_))))
   rw [if_neg (by first | (rintro ⟨q1, q2, q3⟩; omega) | (rintro ⟨q1, q2⟩; simp_all; done) | (rintro ⟨q1, q2, q3⟩; simp_all; omega))]
   exact ⟨_, ⟨rfl, rfl⟩, inferInstance⟩
 intro g1_8
 have hw1 : w = true := by simp_all
 have hR := fb (hw.trans hw1)
 have hg4 := hR.g4
 have hnd := hR.nd
 refine aa rfl (ac rfl) (ar rfl rfl (aa rfl (cp cn bN rfl rfl) ?_))
 refine ar rfl rfl (am rfl (aU xM rfl (rB W0 _ c h.ok.g (pd hR) hR.nn hR.g4)) ?_)
 rintro _ B_ ⟨rfl, hB_⟩
 obtain rfl := hB_.symm
 refine ar rfl rfl (aa rfl (cK rfl rfl) (aa rfl (aM rfl rfl) (ag (ab ?_))))
 refine aw rfl ?_ ?_
 · intro c1
   refine ae (ah (aa rfl (bY ju jt (aH az (aH az bX)) bW) ?_))
   refine bD (cD gX rfl rfl rfl rfl rfl) ?_
   rintro _ _ rfl
   refine ag (ab (av (aE (au (.inl rfl) (.cons (fG mg gX rfl rfl) .nil) ?_))))
   rw [if_neg (by first | (rintro ⟨q1, q2, q3⟩; omega) | (rintro ⟨q1, q2⟩; simp_all; done) | (rintro ⟨q1, q2, q3⟩; simp_all; omega))]
   exact ⟨_, ⟨rfl, rfl⟩, inferInstance⟩
 intro c1
 refine aB (ab (ae (ae ?_)))
 have hw1 : w = true := by simp_all
 have hR := fb (hw.trans hw1)
 have hg4 := hR.g4
 have hnd := hR.nd
 rw [if_pos ⟨hw1, by omega, by first | omega | (simp_all; omega)⟩]
 refine ah ?_
 refine aa rfl (al rfl bw rfl dD rfl (by first | exact Nat.zero_add _ | rfl)) ?_
 refine aa rfl (ao dN rfl (aA rfl)) ?_
 refine aa rfl (bu dq rfl) (aa rfl (ac rfl) (ag (ab (aW ?_))))
 refine cT (fun i : Nat => i ≤ c.gl.length ∧ ∀ j, j < i → ¬ (f : Int) < df c (j + 1)) (fun i => [(1, .int .i64 f), (2, .pointer (some ⟨b2, 0, none⟩)), (4, .pointer (some ⟨b4, 0, none⟩)), (22, .int .i64 (c.gl.length : Nat)), (23, .int .i64 i)]) (fun _ => pt b2 (dd c) :: pt b4 (ax [.int .i64 0, .int .i64 0] 195) :: R) (fun i => c.gl.length - i) 0 ?_ ?_ ?_ ?_
 exact ⟨Nat.zero_le _, fun j hj => absurd hj (Nat.not_lt_zero _)⟩
 · repeat (first | exact aX | refine aV rfl ?_)
 exact inferInstance
 intro i ⟨hi, hI⟩
 refine ae (ah (aa rfl (b0 rfl rfl) (ag (ab (ae ?_)))))
 refine aw rfl ?_ ?_
 intro c4
 refine aB (ab (ae (aW (ae ?_))))
 have hi1 : i < c.gl.length := by omega
 refine ah (aa rfl (ac rfl) (aa rfl (ai rfl) (ag (ab (ae (ah (aa rfl (ac rfl) (aa rfl (cp cn bN rfl rfl) ?_))))))))
 refine aa rfl (ac rfl) ?_
 refine aa rfl (bF rfl rfl (by rw [aZ (by omega)]; omega : IntKind.wrap .i64 ((i : Int) + 1) = ((i + 1 : Nat) : Int))) ?_
 refine am rfl (aU xZ rfl (sf W0 _ c h hR (i + 1) hi1)) ?_
 rintro _ B_ ⟨rfl, hB_⟩
 obtain rfl := hB_.symm
 refine aa rfl (b0 rfl rfl) (ag (ab ?_))
 refine aw rfl ?_ ?_
 intro c6
 refine ae (ah (aa rfl (ac rfl) (aa rfl (bY ju jt (aH az (aH az bX)) (bq rfl az rfl rfl (Nat.le_of_ble_eq_true rfl) SetL.eq (bq rfl az rfl rfl (Nat.le_of_ble_eq_true rfl) SetL.eq bW))) ?_)))
 refine bD (cD gX rfl rfl rfl rfl rfl) ?_
 rintro _ _ rfl
 refine ag (ab (av (bj (aE (aE (bj (aE (au (.inl rfl) (.cons (fG mg gX rfl rfl) .nil) ?_))))))))
 rw [wq hi1 c6 hI]
 exact ⟨_, ⟨rfl, rfl⟩, inferInstance⟩
 intro c6
 refine aB (bH (ab (ah ?_)))
 refine aa rfl (bF rfl rfl (by first | exact aZ (by omega) | rfl)) ?_
 refine aa rfl (ac rfl) (ag (ab ?_))
 refine cG (i + 1) ?_ ?_ ?_ ?_
 refine ⟨by omega, fun j hj => ?_⟩
 rcases Nat.lt_or_ge j i with q | q
 exact hI j q
 rw [show j = i by omega]; exact c6
 omega
 · repeat (first | exact aX | refine aV rfl ?_)
 exact inferInstance
 intro c4
 refine cj (bi (bi (co (ab (ae ?_)))))
 obtain rfl : i = c.gl.length := by omega
 rw [wt hI]
 have hbn := jH hR.gs c.gl.length (Nat.le_refl _)
 have hnb := kS c c.gl.length
 refine ah (aa rfl (ac rfl) (aa rfl (cp cn bN rfl rfl) ?_))
 refine aa rfl (al rfl bw rfl dD rfl (by first | exact Nat.zero_add _ | rfl)) ?_
 refine aa rfl (ao dN rfl (aA rfl)) ?_
 refine aa rfl (bu dq rfl) (am rfl (aU xZ rfl (sf W0 _ c h hR c.gl.length (Nat.le_refl _))) ?_)
 rintro _ B_ ⟨rfl, hB_⟩
 obtain rfl := hB_.symm
 refine aa rfl (dX rfl rfl (aZ (by omega))) ?_
 refine aa rfl (bY ju jt (aH az (aH az bX)) (bq rfl az rfl rfl (Nat.le_of_ble_eq_true rfl) SetL.eq (bq rfl az rfl rfl (Nat.le_of_ble_eq_true rfl) SetL.eq bW))) ?_
 refine bD (cD gX rfl rfl rfl rfl rfl) ?_
 rintro _ _ rfl
 refine ag (ab (av (au (.inl rfl) (.cons (fG mg gX rfl rfl) .nil) ?_)))
 exact ⟨_, ⟨rfl, rfl⟩, inferInstance⟩
def fV (c : Cfg) (i : Int) : Int := if rt c = true ∧ 0 ≤ i ∧ i < c.nl.length then df c c.gl.length + i else -1
theorem wu (W0 : World) (R : List HP) (c : Cfg) (h : CfK W0 c) (i : Int) :
    aC Tryz.prog W0 206 [.agg (bU c).toArray, .int .i64 i] R (fun v B => v = .int .i64 (fV c i) ∧ B = R) := by
 obtain ⟨w, hw⟩ : ∃ w, rt c = w := ⟨_, rfl⟩
 have hO : fV c i = if w = true ∧ 0 ≤ i ∧ i < c.nl.length then df c c.gl.length + i else -1 := by rw [fV, hw]
 rw [hO]
 refine aG func206 ntmps206 rfl rfl ?_
 refine ae (ah (am rfl (bJ rfl) ?_))
 rintro _ _ ⟨b2, rfl, rfl⟩
 refine aa rfl (ai rfl) (ag (ab (ae (ae (ah (aa rfl (cp cn bN rfl rfl) ?_))))))
 refine am rfl (aU xY rfl (rM W0 _ c h.ok)) ?_
 rintro _ B_ ⟨rfl, hB_⟩
 obtain rfl := hB_.symm
 rw [hw]
 refine aa rfl (bM rfl) (aa rfl (ac rfl) ?_)
 refine bC rfl rfl rfl ?_ ?_
 · intro g1_4
   refine ap rfl rfl rfl rfl (aa rfl (aY rfl rfl) (aa rfl (ac rfl) (ap rfl rfl rfl rfl (ap rfl rfl rfl rfl (ap rfl rfl rfl rfl (ap rfl rfl rfl rfl (ap rfl rfl rfl rfl (aa rfl (aY rfl rfl) (ag (ab (cg rfl (ae (ah (aa rfl (ai rfl) (ag (ab (av (aE (au (.inl rfl) (.cons (ak rfl) .nil) ?_)))))))))))))))))))
   rw [if_neg (by first | (rintro ⟨q1, q2, q3⟩; omega) | (rintro ⟨q1, q2⟩; simp_all; done) | (rintro ⟨q1, q2, q3⟩; simp_all; omega))]
   exact ⟨_, ⟨rfl, rfl⟩, inferInstance⟩
 intro g1_4
 refine aa rfl (ac rfl) (ar rfl rfl (aa rfl (b0 rfl rfl) (aa rfl (aM rfl rfl) (aa rfl (ac rfl) ?_))))
 refine bC rfl rfl rfl ?_ ?_
 · intro g1_8
   refine ap rfl rfl rfl rfl (ap rfl rfl rfl rfl (ap rfl rfl rfl rfl (ap rfl rfl rfl rfl (aa rfl (aY rfl rfl) (ag (ab (cg rfl (ae (ah (aa rfl (ai rfl) (ag (ab (av (aE (au (.inl rfl) (.cons (ak rfl) .nil) ?_)))))))))))))))
   rw [if_neg (by first | (rintro ⟨q1, q2, q3⟩; omega) | (rintro ⟨q1, q2⟩; simp_all; done) | (rintro ⟨q1, q2, q3⟩; simp_all; omega))]
   exact ⟨_, ⟨rfl, rfl⟩, inferInstance⟩
 intro g1_8
 refine aa rfl (ac rfl) (ar rfl rfl ?_)
 refine aa rfl (al rfl bw rfl eV rfl (by first | exact Nat.zero_add _ | rfl)) ?_
 refine ar rfl rfl (aa rfl (ao ff rfl (aA rfl)) ?_)
 refine ar rfl rfl (aa rfl (bu eI rfl) (ar rfl rfl (aa rfl (cK rfl rfl) (aa rfl (aM rfl rfl) (ag (ab ?_))))))
 refine aw rfl ?_ ?_
 · intro c1
   refine ae (ah (aa rfl (ai rfl) (ag (ab (av (aE (au (.inl rfl) (.cons (ak rfl) .nil) ?_)))))))
   rw [if_neg (by first | (rintro ⟨q1, q2, q3⟩; omega) | (rintro ⟨q1, q2⟩; simp_all; done) | (rintro ⟨q1, q2, q3⟩; simp_all; omega))]
   exact ⟨_, ⟨rfl, rfl⟩, inferInstance⟩
 intro c1
 refine aB (ab (ae ?_))
 have hw1 : w = true := by simp_all
 have hR := fb (hw.trans hw1)
 have hg4 := hR.g4
 have hnn := hR.nn
 have hlt : i < c.nl.length := by first | omega | (simp_all; omega)
 rw [if_pos ⟨hw1, by omega, hlt⟩]
 have hbn := jH hR.gs c.gl.length (Nat.le_refl _)
 refine ah (aa rfl (cp cn bN rfl rfl) ?_)
 refine aa rfl (al rfl bw rfl dD rfl (by first | exact Nat.zero_add _ | rfl)) ?_
 refine aa rfl (ao dN rfl (aA rfl)) ?_
 refine aa rfl (bu dq rfl) (am rfl (aU xZ rfl (sf W0 _ c h hR c.gl.length (Nat.le_refl _))) ?_)
 rintro _ B_ ⟨rfl, hB_⟩
 obtain rfl := hB_.symm
 refine aa rfl (ac rfl) ?_
 refine aa rfl (bF rfl rfl (aZ (by omega))) ?_
 refine aa rfl (ai rfl) (ag (ab (av (au (.inl rfl) (.cons (ak rfl) .nil) ?_))))
 exact ⟨_, ⟨rfl, rfl⟩, inferInstance⟩
end
end Go.Proofs.YtofillmoflhijaaGreat
