/-
  Part 3 of the proof of GuestOwn: rules, and walks of functions. Conditions: none.
-/
import Derived.Test.YtbhimdcapbflkaaGreatDoorGuestOwnB
namespace Go.Proofs.YtbhimdcapbflkaaGreatDoor
open Go.Proofs.Tryz
set_option linter.unusedSimpArgs false
set_option linter.unusedVariables false
set_option maxRecDepth 20000
set_option linter.defProp false
set_option synthInstance.maxSize 8192
set_option synthInstance.maxHeartbeats 2000000
variable {W0 : World} {R : List HP}
section
open Go.RowKit
def gJ (l cats : Int) : Bool := decide (0 ≤ cats ∧ cats ≤ 8) && mG l && decide (jN .i64 l cats = 0)
theorem Ea l cats : sQ W0 258 [iQ l, iQ cats] R (.bool (gJ l cats)) R := by
 refine am func258 ntmps258 ?_
 refine ai (fun b => ?_) fun b => ?_
 refine ac ?_
 have a : gJ l cats = false := by
  rw [← Qau, gJ]; intro q
  simp only [Qan, Qaj] at q
  first
    | omega
    | (have := q.1.2; simp_all)
 rw [a]; exact ao
 refine ai (fun c => ?_) fun c => ?_
 refine ac ?_
 have a : gJ l cats = false := by
  rw [← Qau, gJ]; intro q
  simp only [Qan, Qaj] at q
  first
    | omega
    | (have := q.1.2; simp_all)
 rw [a]; exact ao
 refine ah (aB NP (E6 l)) ?_
 refine ai (fun d => ?_) fun d => ?_
 refine ac ?_
 have a : gJ l cats = false := by
  simp_all [Qau, gJ, Qan]
 rw [a]; exact ao
 refine aa (j5 rfl rfl (by omega) rfl) ?_
 refine ac ?_
 refine aG ?_
 refine Qah Value.bool ?_
 rw [Qag, gJ]
 simp only [Qan, Qaj]
 constructor
 grind
 grind
structure Cfg where
  cats : Int
  ga : Option Addr
  gc : Nat
  gl : List (Int × Int × Int)
  ra : Option Addr
  rc : Nat
  rl : List (Int × Int × Int)
  pa : Option Addr
  pc : Nat
  pl : List (Int × Int)
  na : Option Addr
  nc : Nat
  nl : List (Int × Int)
  sa : Option Addr
  sc : Nat
  sl : List (Int × Int)
  gate : Int
  quota : Int
@[reducible] def dy (c : Cfg) : List Value := [.int .i64 c.cats, .slice c.ga c.gl.length c.gc, .slice c.ra c.rl.length c.rc, .slice c.pa c.pl.length c.pc, .slice c.na c.nl.length c.nc, .slice c.sa c.sl.length c.sc, .int .i64 c.gate, .int .i64 c.quota]
def pP (cats : Int) (g : Int × Int × Int) : Bool := !(gJ g.1 cats && decide (1 ≤ g.2.1 ∧ g.2.1 ≤ 8 ∧ 0 ≤ g.2.2 ∧ g.2.2 ≤ 8 - g.2.1))
theorem xX {cats g} : pP cats g = false ↔ gJ g.1 cats = true ∧ 1 ≤ g.2.1 ∧ g.2.1 ≤ 8 ∧ 0 ≤ g.2.2 ∧ g.2.2 ≤ 8 - g.2.1 := by
 grind [pP]
theorem tc {cats g} (h : ¬ (gJ g.1 cats = true ∧ 1 ≤ g.2.1 ∧ g.2.1 ≤ 8 ∧ 0 ≤ g.2.2 ∧ g.2.2 ≤ 8 - g.2.1)) : pP cats g = true := by
 grind [xX]
theorem Yg W0 b1 c (hs : ∀ A, cG (aQ W0 A) c.ga 3 i9 c.gl) :
    WF W0 257 [pQ b1] c.gl.length (fun _ => cq [pt b1 (ag (dy c) 30)]) (fun i => pP c.cats (c.gl.getD i (0, 0, 0))) := ⟨call257, fun i hi R => by
 refine pG ?_
 simp only [Qax, Qaw]
 obtain ⟨cats, ga, gc, gl, ra, rc, rl, pa, pc, pl, na, nc, nl, sa, sc, sl, gate, quota⟩ := c
 dsimp only at hs hi ⊢
 obtain ⟨g, o, rfl, hc⟩ := (hs (pt b1 (ag (dy ⟨cats, ga, gc, gl, ra, rc, rl, pa, pc, pl, na, nc, nl, sa, sc, sl, gate, quota⟩) 30) :: R)).at_ hi
 obtain ⟨x, hx⟩ : ∃ x, gl[i] = x := ⟨_, rfl⟩
 rw [show gl.getD i (0, 0, 0) = x by simp [List.getD, hi, hx]]
 rw [hx] at hc
 refine am func257 ntmps257 ?_
 refine aa (bM hi) ?_
 refine aa (dj hc.weak) ?_
 refine bu fun bx => ?_
 refine fh (gi l6 rfl rfl rfl rfl rfl) ?_
 rintro _ _ rfl
 refine aL (aH (aO (mm (aO (aY ?_)))))
 refine ae rfl (d5 rfl mj rfl aS rfl (by first | exact Qac _ | rfl)) ?_
 refine ae rfl (co db rfl (aI rfl)) ?_
 refine ae rfl (d5 rfl Cc rfl aS rfl (by first | exact Qac _ | rfl)) ?_
 refine ae rfl (co db rfl (aI rfl)) ?_
 refine aF rfl (iz NR rfl (Ea x.1 cats)) ?_
 rintro _ B_ ⟨rfl, hB_⟩
 obtain rfl := hB_.symm
 refine ae rfl (rz rfl) (ae rfl (bC rfl) (aL (aH ?_)))
 refine aC rfl ?_ ?_
 intro c2
 refine aw ?_
 refine ac ?_
 rw [tc (fun q => by simp_all)]
 exact ao
 intro c2
 refine aO (aO (aY ?_))
 refine ae rfl (d5 rfl mj rfl aS rfl (by first | exact Qac _ | rfl)) ?_
 refine ae rfl (co db rfl (aI rfl)) ?_
 refine ae rfl (nh rfl rfl) (ae rfl (bC rfl) (aL (aH ?_)))
 refine aC rfl ?_ ?_
 intro c4
 refine aw ?_
 refine ac ?_
 rw [tc (fun q => by omega)]
 exact ao
 intro c4
 refine aY ?_
 refine ae rfl (d5 rfl mj rfl aS rfl (by first | exact Qac _ | rfl)) ?_
 refine ae rfl (co db rfl (aI rfl)) ?_
 refine ae rfl (u6 rfl rfl) (ae rfl (bC rfl) (aL (aH ?_)))
 refine aC rfl ?_ ?_
 intro c5
 refine aw ?_
 refine ac ?_
 rw [tc (fun q => by omega)]
 exact ao
 intro c5
 refine jk (oI (aH (aO (aY ?_))))
 refine ae rfl (d5 rfl mj rfl aS rfl (by first | exact Qac _ | rfl)) ?_
 refine ae rfl (co db rfl (aI rfl)) ?_
 refine ae rfl (nh rfl rfl) (ae rfl (aM rfl) ?_)
 refine dk rfl rfl rfl ?_ ?_
 intro g7_4
 refine aw ?_
 refine ac ?_
 first
   | (rw [tc (fun q => by omega)]; exact ⟨_, ⟨rfl, rfl⟩, inferInstance⟩)
   | (refine ⟨_, ⟨?_, rfl⟩, IO⟩
      refine Qah Value.bool ?_
      rw [Qag, Qaj]
      constructor
      · grind [tc]
      intro q
      apply Decidable.byContradiction
      intro q2
      rw [xX.2 ⟨by simp_all, by omega, by omega, by omega, by omega⟩] at q; cases q)
 intro g7_4
 refine ae rfl (d5 rfl mj rfl aS rfl (by first | exact Qac _ | rfl)) ?_
 refine cM rfl rfl (ae rfl (co db rfl (aI rfl)) ?_)
 refine cM rfl rfl ?_
 refine ae rfl (d5 rfl mj rfl aS rfl (by first | exact Qac _ | rfl)) ?_
 refine cM rfl rfl (ae rfl (co db rfl (aI rfl)) ?_)
 refine cM rfl rfl ?_
 refine ae rfl (l8 rfl rfl (cj (by omega))) ?_
 refine cM rfl rfl (ae rfl (u6 rfl rfl) (ae rfl (iR rfl rfl) (ae rfl (bC rfl) (aL (aH (dE (ac ?_)))))))
 first
   | (rw [tc (fun q => by omega)]; exact ⟨_, ⟨rfl, rfl⟩, inferInstance⟩)
   | (refine ⟨_, ⟨?_, rfl⟩, IO⟩
      refine Qah Value.bool ?_
      rw [Qag, Qaj]
      constructor
      · grind [tc]
      · intro q
        apply Decidable.byContradiction
        intro q2
        rw [xX.2 ⟨by simp_all, by omega, by omega, by omega, by omega⟩] at q; cases q)
 ⟩
theorem AJ fn cs n b o w (a : WF W0 fn cs n (fun _ => cq [pt b o]) w) (c : n ≤ 1000) : sP W0 256 [iQ n, .func (.func fn) #[] cs.toArray] (pt b o :: R) (fun v B => ∃ r, v = .tuple #[iQ r, .bool (mH w n)] ∧ B = R) :=
  sW (B := kH 0 (cq [pt b o]) :: R) (sF (A := [pt b o])) (J2 fn cs n (fun _ => cq [pt b o]) w a c)
def kI (c : Cfg) : Bool := decide (c.gl.length < 1 ∨ 4 < c.gl.length) || mH (fun i => pP c.cats (c.gl.getD i (0, 0, 0))) c.gl.length
theorem Yh c (g : ∀ A, cG (aQ W0 A) c.ga 3 i9 c.gl) : sP W0 179 [.agg (dy c).toArray] R (fun v B => ∃ r, v = .tuple #[iQ r, .bool (kI c)] ∧ B = R) := by
 obtain ⟨w, f⟩ : ∃ w, (fun i => pP c.cats (c.gl.getD i (0, 0, 0))) = w := ⟨_, rfl⟩
 have b : kI c = (decide (c.gl.length < 1 ∨ 4 < c.gl.length) || mH w c.gl.length) := by rw [kI, f]
 refine am func179 ntmps179 ?_
 refine bB fun d => ?_
 refine cn (fun a => ?_) fun a => ?_
 refine ax ?_
 rw [b, Qai (by omega), Qbv]
 exact ⟨_, ⟨0, rfl, rfl⟩, IO⟩
 refine ai (fun h => ?_) fun h => ?_
 refine ax ?_
 rw [b, Qai (by omega), Qbv]
 exact ⟨_, ⟨0, rfl, rfl⟩, IO⟩
 refine aF rfl (ap Cq (AJ 257 [pQ d] c.gl.length d _ w (f ▸ Yg W0 d c g) (by omega))) ?_
 rintro _ j ⟨r, rfl, e⟩
 obtain rfl := e.symm
 refine aw ?_
 refine ax ?_
 rw [b, Qal (by omega), Qbs]
 exact ⟨_, ⟨r, rfl, rfl⟩, IO⟩
def ia (c : Cfg) (i : Int) : Bool := decide (0 ≤ i ∧ i < c.gl.length)
theorem uz c i : sQ W0 263 [.agg (dy c).toArray, iQ i] R (.bool (ia c i)) R := by
 refine am func263 ntmps263 ?_
 refine bB fun b => ?_
 refine bN (fun a => ?_) fun a => ?_
 refine ac ?_
 refine aG ?_
 refine Qah Value.bool ?_
 rw [Qag, ia, Qaj]
 first
   | (rw [Qaj]; constructor
      · intro q; omega
      · intro q; omega)
   | (constructor
      · intro q; first | omega | (cases q)
      intro q; omega)
 refine ac ?_
 refine aG ?_
 refine Qah Value.bool ?_
 rw [Qag, ia, Qaj]
 first
   | (rw [Qaj]; constructor
      · intro q; omega
      · intro q; omega)
   | (constructor
      · intro q; first | omega | (cases q)
      intro q; omega)
@[reducible] def jr (x : Int × Int) : List Value := [.int .i64 x.1, .int .i64 x.2]
def oY (c : Cfg) (s : Int × Int) : Bool := !(ia c s.1 && decide (1 ≤ s.2 ∧ s.2 ≤ 32))
theorem Yi W0 b1 c (e : ∀ A, cG (aQ W0 A) c.sa 2 jr c.sl) :
    WF W0 267 [pQ b1] c.sl.length (fun _ => cq [pt b1 (ag (dy c) 30)]) (fun i => oY c (c.sl.getD i (0, 0))) := ⟨call267, fun i d R => by
 refine pG ?_
 simp only [Qax, Qaw]
 obtain ⟨g, o, hga, hc⟩ := (e (pt b1 (ag (dy c) 30) :: R)).at_ d
 obtain ⟨x, hx⟩ : ∃ x, c.sl[i] = x := ⟨_, rfl⟩
 rw [show c.sl.getD i (0, 0) = x by simp [List.getD, d, hx]]
 rw [hx] at hc
 obtain ⟨w, hw⟩ : ∃ w, ia c x.1 = w := ⟨_, rfl⟩
 have f : oY c x = !(w && decide (1 ≤ x.2 ∧ x.2 ≤ 32)) := by rw [oY, hw]
 rw [f]
 obtain ⟨cats, ga, gc, gl, ra, rc, rl, pa, pc, pl, na, nc, nl, sa, sc, sl, gate, quota⟩ := c
 dsimp only at e d hga hc hw ⊢
 subst hga
 refine am func267 ntmps267 ?_
 refine aa (bM d) ?_
 refine aa (dj hc.weak) ?_
 refine bu fun h => ?_
 refine ar aA ?_
 refine ah (aB wW (uz ⟨cats, ga, gc, gl, ra, rc, rl, pa, pc, pl, na, nc, nl, some ⟨g, o, none⟩, sc, sl, gate, quota⟩ x.1)) ?_
 rw [hw]
 refine dk rfl rfl rfl ?_ ?_
 intro b
 refine aw ?_
 refine ac ?_
 refine aG ?_
 refine Qah Value.bool ?_
 rw [Qag]
 cases w <;> simp_all <;> omega
 intro b
 refine aw ?_
 refine dk rfl rfl rfl ?_ ?_
 intro a
 refine aw ?_
 refine ac ?_
 refine aG ?_
 refine Qah Value.bool ?_
 rw [Qag]
 cases w <;> simp_all <;> omega
 intro a
 refine aw ?_
 refine ac ?_
 refine aG ?_
 refine Qah Value.bool ?_
 rw [Qag]
 cases w <;> simp_all <;> omega
 ⟩
def oe (c : Cfg) : Bool := decide (c.sl.length < 1 ∨ 8 < c.sl.length) || mH (fun i => oY c (c.sl.getD i (0, 0))) c.sl.length
theorem Yj c (g : ∀ A, cG (aQ W0 A) c.sa 2 jr c.sl) : sP W0 183 [.agg (dy c).toArray] R (fun v B => ∃ r, v = .tuple #[iQ r, .bool (oe c)] ∧ B = R) := by
 obtain ⟨w, f⟩ : ∃ w, (fun i => oY c (c.sl.getD i (0, 0))) = w := ⟨_, rfl⟩
 have b : oe c = (decide (c.sl.length < 1 ∨ 8 < c.sl.length) || mH w c.sl.length) := by rw [oe, f]
 refine am func183 ntmps183 ?_
 refine bB fun d => ?_
 refine cn (fun a => ?_) fun a => ?_
 refine ax ?_
 rw [b, Qai (by omega), Qbv]
 exact ⟨_, ⟨0, rfl, rfl⟩, IO⟩
 refine ai (fun h => ?_) fun h => ?_
 refine ax ?_
 rw [b, Qai (by omega), Qbv]
 exact ⟨_, ⟨0, rfl, rfl⟩, IO⟩
 refine aF rfl (ap Cq (AJ 267 [pQ d] c.sl.length d _ w (f ▸ Yi W0 d c g) (by omega))) ?_
 rintro _ j ⟨r, rfl, e⟩
 obtain rfl := e.symm
 refine aw ?_
 refine ax ?_
 rw [b, Qal (by omega), Qbs]
 exact ⟨_, ⟨r, rfl, rfl⟩, IO⟩
def mJ (c : Cfg) : Bool := if c.gate = -1 then decide (c.quota ≠ 0) else !(ia c c.gate && decide (0 ≤ c.quota ∧ c.quota ≤ 64))
theorem Yk c : sQ W0 184 [.agg (dy c).toArray] R (.bool (mJ c)) R := by
 obtain ⟨w, a⟩ : ∃ w, ia c c.gate = w := ⟨_, rfl⟩
 have b : mJ c = if c.gate = -1 then decide (c.quota ≠ 0) else !(w && decide (0 ≤ c.quota ∧ c.quota ≤ 64)) := by rw [mJ, a]
 rw [b]
 refine am func184 ntmps184 ?_
 refine bB fun h => ?_
 refine ai (fun d => ?_) fun d => ?_
 refine ac ?_
 refine aG ?_
 refine Qah Value.bool ?_
 rw [Qag]
 cases w <;> simp_all <;> omega
 refine ah (aB wW (uz c c.gate)) ?_
 rw [a]
 refine ai (fun e => ?_) fun e => ?_
 refine ac ?_
 refine aG ?_
 refine Qah Value.bool ?_
 rw [Qag]
 cases w <;> simp_all <;> omega
 refine ai (fun f => ?_) fun f => ?_
 refine ac ?_
 refine aG ?_
 refine Qah Value.bool ?_
 rw [Qag]
 cases w <;> simp_all <;> omega
 refine ai (fun g => ?_) fun g => ?_
 refine ac ?_
 refine aG ?_
 refine Qah Value.bool ?_
 rw [Qag]
 cases w <;> simp_all <;> omega
 refine ac ?_
 refine aG ?_
 refine Qah Value.bool ?_
 rw [Qag]
 cases w <;> simp_all <;> omega
def kS (c : Cfg) (i : Int) : Int := (c.gl.getD i.toNat (0, 0, 0)).1
def nB (c : Cfg) (x : Int × Int) : Bool := !(ia c x.1 && ia c x.2 && decide (x.1 ≠ x.2) && oX (kS c x.1) (kS c x.2))
theorem Yl W0 b1 c (y : ∀ A, cG (aQ W0 A) c.na 2 jr c.nl) (f : ∀ A, cG (aQ W0 A) c.ga 3 i9 c.gl) :
    WF W0 265 [pQ b1] c.nl.length (fun _ => cq [pt b1 (ag (dy c) 30)]) (fun i => nB c (c.nl.getD i (0, 0))) := ⟨call265, fun i e R => by
 refine pG ?_
 simp only [Qax, Qaw]
 obtain ⟨g, o, hga, hc⟩ := (y (pt b1 (ag (dy c) 30) :: R)).at_ e
 obtain ⟨x, hx⟩ : ∃ x, c.nl[i] = x := ⟨_, rfl⟩
 rw [show c.nl.getD i (0, 0) = x by simp [List.getD, e, hx]]
 rw [hx] at hc
 obtain ⟨p, q⟩ := x
 obtain ⟨w1, hw1⟩ : ∃ w, ia c p = w := ⟨_, rfl⟩
 obtain ⟨w2, hw2⟩ : ∃ w, ia c q = w := ⟨_, rfl⟩
 have s : nB c (p, q) = !(w1 && w2 && decide (p ≠ q) && oX (kS c p) (kS c q)) := by grind [nB]
 by_cases z : w1 = true ∧ w2 = true
 obtain ⟨rfl, rfl⟩ := z
 have C : 0 ≤ p ∧ p < c.gl.length := Qar hw1
 have D : 0 ≤ q ∧ q < c.gl.length := Qar hw2
 obtain ⟨j, rfl⟩ : ∃ j : Nat, p = (j : Int) := ⟨p.toNat, by omega⟩
 obtain ⟨k, rfl⟩ : ∃ k : Nat, q = (k : Int) := ⟨q.toNat, by omega⟩
 have h : j < c.gl.length := by omega
 have l : k < c.gl.length := by omega
 obtain ⟨u, hu⟩ : ∃ u, c.gl[j] = u := ⟨_, rfl⟩
 obtain ⟨v, hv⟩ : ∃ v, c.gl[k] = v := ⟨_, rfl⟩
 have m : kS c (j : Int) = u.1 := by grind [kS]
 have n : kS c (k : Int) = v.1 := by grind [kS]
 rw [m, n] at s
 rw [s]
 obtain ⟨gg, og, hgg, hcj⟩ := (f (pt b1 (ag (dy c) 30) :: R)).at_ h
 obtain ⟨gh, oh, hgh, hck⟩ := (f (pt b1 (ag (dy c) 30) :: R)).at_ l
 rw [hu] at hcj
 rw [hv] at hck
 obtain ⟨cats, ga, gc, gl, ra, rc, rl, pa, pc, pl, na, nc, nl, sa, sc, sl, gate, quota⟩ := c
 dsimp only at e hga hc hw1 hw2 h l hgg hgh hcj hck ⊢
 subst hga
 subst hgg
 obtain ⟨rfl, rfl⟩ : gg = gh ∧ og = oh := by grind
 refine am func265 ntmps265 ?_
 refine aa (bM e) ?_
 refine aa (dj hc.weak) ?_
 refine bu fun t => ?_
 refine ar aA ?_
 refine ah (aB wW (uz ⟨cats, some ⟨gg, og, none⟩, gc, gl, ra, rc, rl, pa, pc, pl, some ⟨g, o, none⟩, nc, nl, sa, sc, sl, gate, quota⟩ (j : Int))) ?_
 rw [hw1]
 refine cn (fun b => ?_) fun b => ?_
 exact absurd rfl b
 refine ah (aB wW (uz ⟨cats, some ⟨gg, og, none⟩, gc, gl, ra, rc, rl, pa, pc, pl, some ⟨g, o, none⟩, nc, nl, sa, sc, sl, gate, quota⟩ (k : Int))) ?_
 rw [hw2]
 refine cn (fun a => ?_) fun a => ?_
 exact absurd rfl a
 refine ai (fun B => ?_) fun B => ?_
 refine ac ?_
 refine aG ?_
 refine Qah Value.bool ?_
 rw [Qag]
 simp_all
 refine fj [(b1, 0, _), (t, 0, _), (gg, og + j * 3, i9 u), (gg, og + k * 3, i9 v)] 17 mixed rfl (bL (bL (bj hcj.weak (bj hck.weak aW)))) (fun d => ?_)
 refine aj 0 4 d ?_
 refine az 4 d (bM h) ?_
 refine aj 5 1 d ?_
 refine az 6 d (aE (km (k := 2) (j := 0) rfl rfl)) ?_
 refine aj 7 4 d ?_
 refine az 11 d (bM l) ?_
 refine aj 12 1 d ?_
 refine az 13 d (aE (km (k := 3) (j := 0) rfl rfl)) ?_
 refine fD 14 rfl rfl (aB call266 (XL u.1 v.1)) (bL (bL (bj hcj.weak (bj hck.weak aW)))) fun d => ?_
 refine aj 15 2 d ?_
 refine aJ ?_
 refine ac ?_
 refine aG ?_
 refine Qah Value.bool ?_
 rw [Qag]
 simp_all
 have r : nB c (p, q) = true := by
  grind
 rw [r]
 obtain ⟨cats, ga, gc, gl, ra, rc, rl, pa, pc, pl, na, nc, nl, sa, sc, sl, gate, quota⟩ := c
 dsimp only at e hga hc hw1 hw2 ⊢
 subst hga
 refine am func265 ntmps265 ?_
 refine aa (bM e) ?_
 refine aa (dj hc.weak) ?_
 refine bu fun t => ?_
 refine ar aA ?_
 refine ah (aB wW (uz ⟨cats, ga, gc, gl, ra, rc, rl, pa, pc, pl, some ⟨g, o, none⟩, nc, nl, sa, sc, sl, gate, quota⟩ p)) ?_
 rw [hw1]
 refine dk rfl rfl rfl ?_ ?_
 intro b
 refine aw ?_
 exact ac ao
 intro b
 refine aw ?_
 refine ah (aB wW (uz ⟨cats, ga, gc, gl, ra, rc, rl, pa, pc, pl, some ⟨g, o, none⟩, nc, nl, sa, sc, sl, gate, quota⟩ q)) ?_
 rw [hw2]
 refine dk rfl rfl rfl ?_ ?_
 intro a
 refine aw ?_
 exact ac ao
 intro a
 exfalso; cases w1 <;> cases w2 <;> simp_all
 ⟩
def jE (c : Cfg) : Bool := decide (4 < c.nl.length) || mH (fun i => nB c (c.nl.getD i (0, 0))) c.nl.length
theorem Ym c (g : ∀ A, cG (aQ W0 A) c.na 2 jr c.nl) (a : ∀ A, cG (aQ W0 A) c.ga 3 i9 c.gl) : sP W0 182 [.agg (dy c).toArray] R (fun v B => ∃ r, v = .tuple #[iQ r, .bool (jE c)] ∧ B = R) := by
 obtain ⟨w, e⟩ : ∃ w, (fun i => nB c (c.nl.getD i (0, 0))) = w := ⟨_, rfl⟩
 have f : jE c = (decide (4 < c.nl.length) || mH w c.nl.length) := by rw [jE, e]
 refine am func182 ntmps182 ?_
 refine bB fun b => ?_
 refine ai (fun h => ?_) fun h => ?_
 refine ax ?_
 rw [f, Qai (by omega), Qbv]
 exact ⟨_, ⟨0, rfl, rfl⟩, IO⟩
 refine aF rfl (ap Cq (AJ 265 [pQ b] c.nl.length b _ w (e ▸ Yl W0 b c g a) (by omega))) ?_
 rintro _ j ⟨r, rfl, d⟩
 obtain rfl := d.symm
 refine aw ?_
 refine ax ?_
 rw [f, Qal (by omega), Qbs]
 exact ⟨_, ⟨r, rfl, rfl⟩, IO⟩
def fZ (c : Cfg) : Nat → Int
 | 0 => (c.nl.length : Int)
 | i + 1 => fZ c i + ((c.gl.getD i (0, 0, 0)).2.1 + (c.gl.getD i (0, 0, 0)).2.2)
theorem Eb {c} (a : ∀ g ∈ c.gl, 1 ≤ g.2.1 ∧ g.2.1 ≤ 8 ∧ 0 ≤ g.2.2 ∧ g.2.2 ≤ 8 - g.2.1) (b : c.nl.length ≤ 4) : ∀ i, i ≤ c.gl.length → 0 ≤ fZ c i ∧ fZ c i ≤ 4 + 8 * i
 | 0, _ => by rw [fZ]; omega
 | i + 1, d => by
  obtain ⟨e, f⟩ := Eb a b i (by omega)
  have := a _ (QaF (show i < c.gl.length by omega))
  rw [fZ, show c.gl.getD i (0, 0, 0) = c.gl[i]'(by omega) by simp [List.getD, show i < c.gl.length by omega]]
  omega
theorem J3 c (l : ∀ A, cG (aQ W0 A) c.ga 3 i9 c.gl) (h : ∀ g ∈ c.gl, 1 ≤ g.2.1 ∧ g.2.1 ≤ 8 ∧ 0 ≤ g.2.2 ∧ g.2.2 ≤ 8 - g.2.1) (m : c.nl.length ≤ 4) (r : c.gl.length ≤ 4) : sQ W0 69 [.agg (dy c).toArray] R (iQ (fZ c c.gl.length)) R := by
 have b := Eb h m
 refine am func69 ntmps69 ?_
 refine bB fun s => ?_
 refine cW (fun i : Nat => i ≤ c.gl.length) (fun i => [(3, iQ (fZ c i)), (10, .slice c.ga c.gl.length c.gc), (11, iQ (c.gl.length : Nat)), (12, iQ (i : Nat))]) (fun _ => R) (fun i => c.gl.length - i) 0 ?_ ?_
 omega
 intro i n
 refine aw ?_
 refine ai (fun p => ?_) fun p => ?_
 have a : i < c.gl.length := by omega
 obtain ⟨g, o, d, j⟩ := (l R).at_ a
 obtain ⟨x, k⟩ : ∃ x, c.gl[i] = x := ⟨_, rfl⟩
 rw [k] at j
 have e := h _ (QaF a)
 rw [k] at e
 have f : fZ c (i + 1) = fZ c i + (x.2.1 + x.2.2) := by grind [fZ]
 have q := b i n
 rw [d]
 refine aa (bM a) ?_
 refine aa (dj j.weak) ?_
 refine bu fun t => ?_
 refine fh (gi l6 rfl rfl rfl rfl rfl) ?_
 rintro _ _ rfl
 refine aL (aH (aY (ae rfl (aM rfl) ?_)))
 refine ae rfl (d5 rfl mj rfl aS rfl (by first | exact Qac _ | rfl)) ?_
 refine ae rfl (co db rfl (aI rfl)) ?_
 refine ae rfl (d5 rfl mj rfl aS rfl (by first | exact Qac _ | rfl)) ?_
 refine ae rfl (co db rfl (aI rfl)) ?_
 refine ae rfl (dh rfl rfl (cj (by omega))) ?_
 refine aa (dh rfl rfl (by rw [cj (by omega)]; exact f.symm : IntKind.wrap .i64 (fZ c i + (x.2.1 + x.2.2)) = fZ c (i + 1))) ?_
 refine aa bW ?_
 exact bR (i + 1) (by omega)
 refine ac ?_
 obtain rfl : i = c.gl.length := by omega
 exact ao
section
variable {rd : Option Nat} {P : Program} {S : World → Prop} {W0 : World} {N : FSz} {Q : Exit → Act → World → Prop} {e : bi} {A B R R1 R2 : List HP} {ops : Array Oper} {rest : List Oper}
variable {op : Op} {ty t t' : TypeId} {pos : String} {af : Array Edge} {v u : Value} {d b off : Nat} {x y z : Operand} {l l' vs : List Value}
theorem AK {z n} : (Builtin.zeroCells z n).toList.length = n * z.size := by simp [Builtin.zeroCells]
theorem Yn {E sz n k c by_ : Nat} {info zz an olds kk kq kn} (K : P.underlying t = some (.slice E)) (r : P.underlying t' = some (.int kn))
    (L : P.info? E = some info) (M : info.zero = some zz) (s : info.size = sz) (z : info.bytes = by_) (b : zz.cells.size = sz) (d : 0 < sz)
    (O : ev e x = some (.slice an n c)) (Q : ev e y = some (.int kq kk)) (R : kk = k) (f : (an = none ∧ olds = []) ∨ ∃ o p, an = some ⟨o, p, none⟩ ∧ bE (aQ W0 A) o p olds) (h : olds.length = n * sz)
    (S : 0 < k) (T : c < n + k) (i : n + k ≤ maxLen) (l : (n + k) * by_ ≤ 140737488355328) :
    cY P W0 N e A (.call { callee := .builtin .append, args := #[x, y], argTypes := #[t, t'] }) (fun v B => ∃ U V H, v = .slice U (n + k) V ∧ H.length = k * sz ∧ B = osl E sz v (olds ++ H) :: A) := vo fun a w W X Y af g I J => by
 subst R
 subst s
 subst z
 have q : n + k ≤ 9223372036854775807 := by simp only [maxLen] at i; omega
 have C : (Builtin.firstCells info.size n (.slice an n c)).run P w.drew = .ok olds.toArray w.drew := by
  rcases f with ⟨rfl, rfl⟩ | ⟨o, p, rfl, Z⟩
  simp [Builtin.firstCells]
  exact run_firstCells_some (P := P) w.drew info.size n ⟨o, p, none⟩ n c olds h (fun j u hj => by
   have := Z j u hj w J
   simpa [jy] using this)
 have D : k * info.bytes ≤ 281474976710656 := by
  grind
 have hr := Go.Lib.run_append_grow_zeros (P := P) w t t' X E info zz kq kn K r L M an n c olds C k S d T (by omega) D (growslice_fits (by omega) l)
 have F := grownCap_ge w (n + k) c E
 have G := grownCap_le_maxLen w (n + k) c E i
 have m := (Own.drew J (w.drawn + 1)).new (ag ((olds ++ (Builtin.zeroCells zz.cells k).toList) ++ (Builtin.zeroCells zz.cells (grownCap w (n + k) c E - (n + k))).toList) E)
 have ea : ((olds ++ (Builtin.zeroCells zz.cells k).toList) ++ (Builtin.zeroCells zz.cells (grownCap w (n + k) c E - (n + k))).toList).toArray = olds.toArray ++ Builtin.zeroCells zz.cells k ++ Builtin.zeroCells zz.cells (grownCap w (n + k) c E - (n + k)) := by grind
 refine ⟨_, { ({ w with drawn := w.drawn + 1 } : World) with heap := w.heap.push (ag ((olds ++ (Builtin.zeroCells zz.cells k).toList) ++ (Builtin.zeroCells zz.cells (grownCap w (n + k) c E - (n + k))).toList) E) }, _, .inl ?_, ⟨some ⟨w.heap.size, 0, none⟩, grownCap w (n + k) c E, (Builtin.zeroCells zz.cells k).toList, rfl, by rw [AK, b], rfl⟩, ?_⟩
 simp only [execOp, resolve, invoke, builtin, Sem.run_bind, Sem.run_pure, Result.andThen_ok, Qcy, QaM, Qcg, I.eval O, I.eval Q, hr]
 simp only [World.drew, World.alloc, ag, ea]
 refine m.ent ?_
 exact @fk _ A A E info.size w.heap.size (n + k) (grownCap w (n + k) c E) (olds ++ (Builtin.zeroCells zz.cells k).toList) _ _ F G (by grind [Qae, AK]) (by
   rw [Qae, Qae, h, AK, AK, b, ← Nat.add_mul, ← Nat.add_mul]; congr 1; omega) _
theorem Yo {f xs ats} (b : fP e xs.toList = some vs) (c : ∀ w, S w → (callFunc f vs.toArray).run P w = .ok (.value v) w) : bT P S N e (.call { callee := .value (.func f), args := xs, argTypes := ats }) v := fun a w d l h m g i j => by
 rw [execOp_call_go]
 have k : (#[] ++ xs.map a.eval ++ #[] : Array Value) = vs.toArray := by
  have := i.evals b
  rw [← this]; apply Qda; simp
 rw [k, c w j]
theorem Yp {n c a} (b : P.underlying t = some (.slice d)) (f : ev e x = some (.slice a n c)) : bT P S N e (.call { callee := .builtin .cap, args := #[x], argTypes := #[t] }) (iQ c) := fun g w _ _ _ _ _ h _ => by
 simp [execOp, resolve, invoke, builtin, h.eval f, Builtin.cap_, eW b, goInt]
theorem AL {p q s r} (h : q.length = r.length) : d7 (p ++ q ++ s) p.length r = p ++ r ++ s := by
 grind [sK]
theorem J4 {g o l1 l2} (h : bE S g o (l1 ++ l2)) : bE S g o l1 := fun i v a => h i v (by
  rw [QaB (by
    rcases QaC i l1.length with q | q
    · exact q
    rw [Qbk q] at a; cases a)]
  exact a)
theorem Yq {g o l1 l2} (h : bE S g o (l1 ++ l2)) : bE S g (o + l1.length) l2 := fun i v a => by
 rw [QbY]
 exact h (l1.length + i) v (by grind)
theorem J5 {l1 l2 l3 o} [h : Tk pt b A (ag l ty) R] (a : l = l1 ++ l2 ++ l3) (c : l1.length = o) : bE (aQ W0 A) b o l2 := by
 subst c
 have d : bE (aQ W0 A) b 0 (l1 ++ l2) := J4 (l2 := l3) (by rw [← a]; exact en (ty := ty) (R := R) (h := h))
 have := Yq d
 rwa [Qac] at this
theorem Yr {E h : Nat} {c tR ba ga na ca nb cb oa ob : Nat} {la lb ta tb} (i : P.underlying c = some (.slice E)) (j : ∀ w, (sizeOf E).run P w = .ok h w) [u : Tk pt ba A (ag la ta) R1] [k : Tk pt ga R1 (ag lb tb) R2] (l : oa ≤ la.length) (m : 0 < lb.length) {w} (n : Own W0 w A) :
    (Extern.SlicesOverlaps.overlaps #[c, c] #[tR] #[.slice (some ⟨ba, oa, none⟩) na ca, .slice (some ⟨ga, ob, none⟩) nb cb]).run P w = .ok (.bool false) w := by
 have a := n.tk (r := pt) (b := ba)
 have d := a.has.2
 have e := (a.drop).tk (r := pt) (b := ga)
 have o := e.has.2
 have f : ba ≠ ga := by
  intro q; subst q
  have g : Own W0 w (pt ba (ag la ta) :: pt ba (ag lb tb) :: R2) := a.perm (k.perm.cons _)
  obtain ⟨v, ⟨x, y, rfl, p, z, B, rfl, s, _⟩, t, _⟩ := g.owns
  cases p; cases s
  simp at t
 refine Go.Lib.run_overlaps_apart w c tR E i h j ⟨ba, oa, none⟩ ⟨ga, ob, none⟩ na ca nb cb f ta tb la.length lb.length ?_ ?_ (by omega) ?_ ?_
 simp [World.shape?, d]
 simp [World.shape?, o]
 simp [World.frozen?, d]
 simp [World.frozen?, d]
end
class NOut (Q : Exit → Act → World → Prop) : Prop where
  no : ∀ a w, ¬ Q .outgrown a w
instance a9s {n : Act → World → Prop} {Q : Exit → Act → World → Prop} [h : NOut Q] : NOut (Exit.then n Q) := ⟨fun a w k => h.no a w k⟩
instance a9t {id : Nat} {Q : Exit → Act → World → Prop} [h : NOut Q] : NOut (Exit.inBlock id Q) := ⟨fun a w k => h.no a w k⟩
instance a9u {P : Program} {W0 : World} {L : Nat} {Post : Value → List HP → Prop} : NOut (vA P W0 L Post) := ⟨fun a w k => k⟩
instance a9v {P : Program} {W0 : World} {L : Nat} {Post : Value → List HP → Prop} : POk (vA P W0 L Post) := ⟨fun c a d v w k => k.elim⟩
section
variable {rd : Option Nat} {P : Program} {W0 : World} {N : FSz} {Q : Exit → Act → World → Prop} {e : bi} {A : List HP} {ops : Array Oper} {S : World → Prop}
theorem AM (f : tY rd ops.toList = true) (j : NOut Q) : ∀ (b : Nat) (c : Array Bool) (a : Act) (w : World), wpAnyH P .any ops Q S b c a w → wpAnyIn (FW rd) 0 P .any ops Q b c a w
 | 0, _, _, _, h => h
 | b + 1, c, a, w, h => ⟨h.1, fun i p => by
  have e := h.2 i p
  unfold wpOp at e
  unfold wpOpIn
  cases k : ops[i]? with
  | none =>
   rw [k] at e
   exact AM f j b _ a w e.2
  | some o =>
   rw [k] at e
   simp only at e ⊢
   split at e
   rename_i d
   rw [Qad d]
   rcases e with e | ⟨_, m, n, h3⟩
   have g : o.semAt (FW rd).round a.eval = execOp a.eval o := by
    cases rd with
    | none => rfl
    | some l =>
     refine Oper.semAt_eq _ _ _ (GV ?_)
     simp only [tY, Option.isNone_some, Qbs, QbW] at f
     exact f _ (by
       obtain ⟨hlt, rfl⟩ := Array.getElem?_eq_some_iff.1 k
       simp)
   refine ⟨fun _ _ => trivial, ?_⟩
   rw [g]
   exact GU (fun m n q => AM f j b _ m n q.2) e
   exact absurd h3 (j.no m n)
   rename_i d
   rw [Qaa d]
   exact ⟨fun _ _ => trivial, AM f j b _ _ w e.2⟩⟩
theorem Ys {c : Nat} (b : List (Nat × Nat × List Value)) (n : Nat) (d : P.follows .mixedOrders = true) (f : Nat.beq ops.size n = true) [g : NOut Q] (h : ∀ w, Own W0 w A → SC b w) (k : (∀ w, Own W0 w A → SC b w) → av W0 N (DR P ops Q b n (Array.replicate n false)) e A) (i : tY rd ops.toList = true := by rfl) : av W0 N ((Code.region c ops true).wpR rd P Q) e A := by
 intro a w j l
 have : ops.size = n := Nat.eq_of_beq_eq_true f
 subst this
 exact wpIn_region_any d (AM i g _ _ _ _ (k h a _ j (l.drew _)))
end
abbrev Rn := Int × Int × Int
def cA (x : Rn) : List Value := [.int .i64 x.1, .int .i64 x.2.1, .int .i64 x.2.2]
theorem qI x : (cA x).length = 3 := rfl
theorem Ec x : fi (cA x) = true := by simp [cA, fi, Value.oneCell']
theorem Ed (l : List Rn) : fi (l.flatMap cA) = true := by
 induction l with
 | nil => rfl
 | cons x l a =>
  rw [Qbc, fi, List.all_append, Qan]
  exact ⟨Ec x, a⟩
@[reducible] def m8 (a : Option Addr) (k c : Nat) (n : Int) : Obj := ag [.slice a k c, .int .i64 n, .bool true] 441
def qJ (b : Nat) (x : List Rn × Int) : HP := chk (fun C => ∃ a c, C = [pt b (m8 a x.1.length c x.2), osl 445 3 (.slice a x.1.length c) (x.1.flatMap cA)])
section
variable {W0 : World} {N : FSz} {K : Act → World → Prop} {e : bi} {A B R R1 R2 : List HP} {b n c : Nat} {x : List Rn × Int}
theorem Yt [f : Tk qJ b A x R] (h : ∀ a c, av W0 N K e (pt b (m8 a x.1.length c x.2) :: osl 445 3 (.slice a x.1.length c) (x.1.flatMap cA) :: R)) : av W0 N K e A :=
  fV (r := qJ) (b := b) (ni fun C d => by obtain ⟨a, c, rfl⟩ := d; exact h a c)
theorem rU {rs k m nn a ys} [c : Tk pt b A (m8 a k m nn) R1] [d : Tk (osl 445 3) (.slice a k m) R1 ys R2] (e : k = rs.length) (f : ys = rs.flatMap cA) [q : Ent R2 B] : Ent A (qJ b (rs, nn) :: B) := by
 subst e; subst f
 exact (Ent.ofPerm (c.perm.trans (d.perm.cons _))).trans ((fK (R := R2) (C := [_, _]) ⟨a, m, rfl⟩).trans (Ent.cons q))
theorem J6 {α : Type} {E sz g c i : Nat} {f} {d : List α} {x ys} [h : Tk (osl E sz) (.slice (some ⟨g, 0, none⟩) n c) A ys R] (j : ys = d.flatMap f) (k : ∀ x, (f x).length = sz) (l : 0 < sz) (m : d[i]? = some x) : bE (aQ W0 A) g (i * sz) (f x) := by
 obtain ⟨b, o, p, e⟩ := VP (S := aQ W0 A) (a := some ⟨g, 0, none⟩) (.inr ⟨g, rfl⟩) (xq (E := E) (sz := sz) (n := n) (c := c) (ys := ys)) k j l i x m
 cases p
 rw [Qac] at e; exact e
end
theorem Yu W0 k bt L (d : List Rn) n a c (w : d.length ≤ 1000) (C : Nat → List HP) (I : Nat → Prop) (x : I 0) (e : List HP → Prop) (q : ∀ i R, i < d.length → I i → qp Tryz.prog W0 L [iQ i, .agg (cA (d.getD i (0, 0, 0))).toArray] (C i ++ R) (fun v B => ∃ b h, v = .bool b ∧ B = h ++ R ∧ ((b = true ∧ I (i + 1) ∧ h = C (i + 1)) ∨ (b = false ∧ e h)))) : sP W0 409 [.func (.yield L) #[] #[], pQ k] (pt k (ag [pQ bt] 385) :: pt bt (m8 a d.length c n) :: osl 445 3 (.slice a d.length c) (d.flatMap cA) :: C 0) (fun v B => v = .tuple #[] ∧ ∃ h, B = pt bt (m8 a d.length c n) :: osl 445 3 (.slice a d.length c) (d.flatMap cA) :: h ∧ ((I d.length ∧ h = C d.length) ∨ e h)) := by
 refine am func409 ntmps409 ?_
 refine cW (fun i : Nat => i ≤ d.length ∧ I i) (fun i => [(0, .func (.yield L) #[] #[]), (8, .slice a d.length c), (9, iQ (d.length : Nat)), (10, iQ (i : Nat))]) (fun i => pt bt (m8 a d.length c n) :: osl 445 3 (.slice a d.length c) (d.flatMap cA) :: C i) (fun i => d.length - i) 0 ?_ ?_
 grind
 intro i ⟨y, p⟩
 refine aw ?_
 refine ai (fun r => ?_) fun r => ?_
 have j : i < d.length := by omega
 have l : d[i]? = some (d.getD i (0, 0, 0)) := by grind
 refine vG (E := 445) (sz := 3) (a := a) (c := c) (n := d.length) (ys := d.flatMap cA) (fun s => ?_)
 obtain ⟨g, rfl⟩ := vU s (by rw [← Qcx, cF qI]; omega)
 refine aw ?_
 refine aa (bM j) ?_
 refine aa (dj (J6 (f := cA) (E := 445) (sz := 3) (n := d.length) (c := c) rfl qI (by decide) l)) ?_
 refine bu fun k => ?_
 refine fh (gi ke rfl rfl rfl rfl rfl) ?_
 rintro _ _ rfl
 refine aL (aH (aO (aY (ae rfl (aM rfl) (ae rfl (aM rfl) (ae rfl (pE N9 ke rfl rfl) ?_))))))
 refine D5 rfl rfl rfl (D9 (QaY (l₁ := [_, _, _])) (q i [_, _, _] j p)) ?_
 rintro _ z ⟨b, h, rfl, m, A⟩
 obtain rfl := m.symm
 refine qf QaY ?_
 simp only [Qax, Qaw]
 refine aw ?_
 refine ai (fun t => ?_) fun t => ?_
 have o : e h := by
  grind
 refine bU (.inl rfl) .nil ?_
 exact ⟨_, ⟨rfl, _, rfl, .inr o⟩, IO⟩
 have o : I (i + 1) ∧ h = C (i + 1) := by
  grind
 obtain ⟨u, rfl⟩ := o
 refine aa bW ?_
 refine bR (i + 1) ?_
 grind
 refine bU (.inr rfl) .nil ?_
 obtain rfl : i = d.length := by omega
 exact ⟨_, ⟨rfl, _, rfl, .inl ⟨p, rfl⟩⟩, IO⟩
theorem Yv bt : sP W0 371 [pQ bt] R (fun v B => ∃ a, v = .func (.func 409) #[] #[pQ a] ∧ B = pt a (ag [pQ bt] 385) :: R) := by
 refine am func371 ntmps371 ?_
 refine dw (jO rfl rfl) fun a => ?_
 refine ac ?_
 exact ⟨_, ⟨a, rfl, rfl⟩, IO⟩
theorem Yw {W0 A e n' L D b1 bt c n a ps' asg body} pe {u g : List HP → Prop} (b : List Rn) (y : b.length ≤ 1000) (h : Nat → List HP) (I : Nat → Prop) (l : List HP → Prop)
    (z : A.Perm (pt b1 (ag [pQ bt] 385) :: pt bt (m8 a b.length c n) :: osl 445 3 (.slice a b.length c) (b.flatMap cA) :: h 0)) (E : I 0)
    (m : I b.length → u (pt bt (m8 a b.length c n) :: osl 445 3 (.slice a b.length c) (b.flatMap cA) :: h b.length))
    (o : ∀ d, l d → g (pt bt (m8 a b.length c n) :: osl 445 3 (.slice a b.length c) (b.flatMap cA) :: d))
    (p : ∀ i q, i < b.length → I i → qp Tryz.prog W0 L [iQ i, .agg (cA (b.getD i (0, 0, 0))).toArray] (dH L ⟨e, n', ps', asg, body, .ready, none, D⟩ :: pt D (.deferred (some [])) :: (h i ++ q))
      (fun v B => (v = .bool true ∧ I (i + 1) ∧ B = dH L ⟨e, n', ps', asg, body, .ready, none, D⟩ :: pt D (.deferred (some [])) :: (h (i + 1) ++ q)) ∨
        (v = .bool false ∧ ∃ d, l d ∧ B = dH L ⟨e, n', ps', asg, body, .done, some pe, D⟩ :: pt D (.deferred (some [])) :: (d ++ q)))) :
    bF Tryz.prog W0 409 (.func (.yield L) #[] #[] :: [pQ b1]) (dH L ⟨e, n', ps', asg, body, .ready, none, D⟩ :: pt D (.deferred (some [])) :: A)
      (fun _ B => (∃ C, B = dH L ⟨e, n', ps', asg, body, .ready, none, D⟩ :: pt D (.deferred (some [])) :: C ∧ u C) ∨ (∃ C, B = dH L ⟨e, n', ps', asg, body, .done, some pe, D⟩ :: pt D (.deferred (some [])) :: C ∧ g C)) := by
 have j : (dH L ⟨e, n', ps', asg, body, .ready, none, D⟩ :: pt D (.deferred (some [])) :: A).Perm (pt b1 (ag [pQ bt] 385) :: pt bt (m8 a b.length c n) :: osl 445 3 (.slice a b.length c) (b.flatMap cA) :: (dH L ⟨e, n', ps', asg, body, .ready, none, D⟩ :: pt D (.deferred (some [])) :: h 0)) :=
   ((z.cons _).cons _).trans (List.perm_append_comm_assoc [_, _] [_, _, _] (h 0))
 refine nj j (gQ (Yu W0 b1 bt L b n a c y (fun i => dH L ⟨e, n', ps', asg, body, .ready, none, D⟩ :: pt D (.deferred (some [])) :: h i) I E
   (fun B => ∃ d, l d ∧ B = dH L ⟨e, n', ps', asg, body, .done, some pe, D⟩ :: pt D (.deferred (some [])) :: d) fun i R r s w F => ?_) ?_)
 obtain ⟨f, k, t, G, H, J⟩ := p i R r s w F
 refine ⟨f, k, t, G, H, RoundIn.mono J ?_⟩
 rintro _ O ⟨v, B, rfl, K, M⟩
 rcases K with ⟨rfl, N, rfl⟩ | ⟨rfl, d, x, rfl⟩
 grind
 grind
 rintro v B ⟨_, P, rfl, ⟨s, rfl⟩ | ⟨d, x, rfl⟩⟩
 exact ⟨_, .inl ⟨_, rfl, m s⟩, Ent.ofPerm (List.perm_append_comm_assoc [_, _] [_, _] (h b.length))⟩
 exact ⟨_, .inr ⟨_, rfl, o d x⟩, Ent.ofPerm (List.perm_append_comm_assoc [_, _] [_, _] d)⟩
theorem Yx x (h : -1000 ≤ x.1 + x.2.1 ∧ x.1 + x.2.1 ≤ 1000) : sQ W0 372 [.agg (cA x).toArray] R (iQ (x.1 + x.2.1)) R := by
 refine am func372 ntmps372 ?_
 refine eH (kg rfl) fun a => ?_
 refine ae rfl (bC rfl) (aL (aH (aO (aY ?_))))
 refine ae rfl (d5 rfl Gb rfl aS rfl (by first | exact Qac _ | rfl)) ?_
 refine ae rfl (co db rfl (aI rfl)) ?_
 refine ae rfl (d5 rfl Gb rfl aS rfl (by first | exact Qac _ | rfl)) ?_
 refine ae rfl (co db rfl (aI rfl)) ?_
 refine ae rfl (dh rfl rfl (cj (by omega))) ?_
 refine ae rfl (bC rfl) (aL (aH (dE ?_)))
 exact ac ao
def kT : List Rn → Int → Nat
 | [], _ => 0
 | x :: l, f => if x.1 + x.2.1 ≤ f then kT l f + 1 else 0
def oi (rs : List Rn) (f n : Int) : Bool := match rs[kT rs f]? with
 | some x => decide (x.1 < f + n)
 | none => false
theorem Ee : ∀ (a : List Rn) (f : Int) (i : Nat), i ≤ a.length → (∀ j (d : j < a.length), j < i → a[j].1 + a[j].2.1 ≤ f) → (∀ h : i < a.length, ¬ a[i].1 + a[i].2.1 ≤ f) → kT a f = i
 | [], f, i, h, _, _ => by simp at h; rw [kT, h]
 | x :: l, f, 0, _, _, b => by
  have := b (by simp)
  rw [kT, Qaa (by grind)]
 | x :: l, f, i + 1, h, c, b => by
  have g := c 0 (by simp) (by omega)
  rw [kT, Qad (by grind), Ee l f i (by simpa using h) (fun j d e => by
   have := c (j + 1) (by omega) (by omega)
   simpa using this) (fun k => by
   have := b (by grind)
   simpa using this)]
theorem Ef : ∀ (a : List Rn) (f : Int), kT a f ≤ a.length
 | [], f => Qam _
 | x :: l, f => by
  have := Ef l f
  rw [kT]; split
  grind
  omega
def qK (rs : List Rn) : Prop := ∀ x ∈ rs, 0 ≤ x.1 ∧ 1 ≤ x.2.1 ∧ x.1 + x.2.1 ≤ 64 ∧ 0 ≤ x.2.2 ∧ x.2.2 < 64
theorem qK.get {rs} (h : qK rs) {i} (a : i < rs.length) : 0 ≤ (rs.getD i (0, 0, 0)).1 ∧ 1 ≤ (rs.getD i (0, 0, 0)).2.1 ∧ (rs.getD i (0, 0, 0)).1 + (rs.getD i (0, 0, 0)).2.1 ≤ 64 ∧ 0 ≤ (rs.getD i (0, 0, 0)).2.2 ∧ (rs.getD i (0, 0, 0)).2.2 < 64 := by
 rw [show rs.getD i (0, 0, 0) = rs[i] by simp [List.getD, a]]; exact h _ (QaF a)
theorem Yy b k c a n : sQ W0 326 [pQ b] (pt b (m8 a k c n) :: R) (.bool false) (pt b (m8 a k c n) :: R) := by
 refine am func326 ntmps326 ?_
 refine dk rfl rfl rfl (fun d => ?_) fun d => ?_
 cases d
 refine aw ?_
 exact ac ao
theorem Yz n (h : 0 ≤ n ∧ n ≤ 64) : sP W0 259 [iQ n] R (fun v B => ∃ b, v = .tuple #[pQ b, iQ 0] ∧ B = qJ b ([], n) :: R) := by
 refine am func259 ntmps259 ?_
 refine dk rfl rfl rfl (fun a => ?_) fun a => ?_
 omega
 refine aw ?_
 refine aC rfl (fun c => ?_) fun c => ?_
 omega
 refine aw ?_
 refine bB fun d => ?_
 refine ax ?_
 refine ⟨_, ⟨d, rfl, rfl⟩, ?_⟩
 exact (Ent.cons (fm (E := 445) (sz := 3) (B := R))).trans (rU (rs := []) rfl rfl)
theorem YA bt c rs n a (t : qK rs) (J : rs.length ≤ 1000) f k (P : 0 ≤ f ∧ f ≤ 64 ∧ 1 ≤ k ∧ k ≤ 64) : sQ W0 327 [pQ bt, iQ f, iQ k] (pt bt (m8 a rs.length c n) :: osl 445 3 (.slice a rs.length c) (rs.flatMap cA) :: R) (.tuple #[iQ (kT rs f), .bool (oi rs f k)]) (pt bt (m8 a rs.length c n) :: osl 445 3 (.slice a rs.length c) (rs.flatMap cA) :: R) := by
 refine am func327 ntmps327 ?_
 refine dw (jO rfl rfl) fun m => ?_
 refine eH (jO rfl rfl) fun r => ?_
 refine au 4 ?_
 refine DD (aw ?_)
 refine dw (rD ml rfl) fun g => ?_
 refine dw (rD NM rfl) fun l => ?_
 refine ar dX ?_
 refine fh (lU iN rfl rfl rfl (Qab rfl) SetL.eq) ?_
 rintro _ _ rfl
 refine aL (aH (aO (CM (aH (aO (aO (aY (ae rfl (aM rfl) (aF rfl (aB call371 (Yv bt)) ?_)))))))))
 rintro _ Q ⟨K, rfl, u⟩
 obtain rfl := u.symm
 refine aL (aH (mm ?_))
 refine Xh 0 (fun C => (∀ j, j < rs.length → (rs.getD j (0, 0, 0)).1 + (rs.getD j (0, 0, 0)).2.1 ≤ f) ∧ C = pt bt (m8 a rs.length c n) :: osl 445 3 (.slice a rs.length c) (rs.flatMap cA) :: pt l (ag [.bool false] 4) :: pt g (ag [iQ (rs.length : Nat)] 3) :: pt r (ag [iQ k] 3) :: pt m (ag [iQ f] 3) :: R) (fun C => ∃ i, i < rs.length ∧ (∀ j, j < i → (rs.getD j (0, 0, 0)).1 + (rs.getD j (0, 0, 0)).2.1 ≤ f) ∧ (¬ (rs.getD i (0, 0, 0)).1 + (rs.getD i (0, 0, 0)).2.1 ≤ f) ∧ C = pt bt (m8 a rs.length c n) :: osl 445 3 (.slice a rs.length c) (rs.flatMap cA) :: pt l (ag [.bool (decide ((rs.getD i (0, 0, 0)).1 < f + k))] 4) :: pt g (ag [iQ (i : Nat)] 3) :: pt r (ag [iQ k] 3) :: pt m (ag [iQ f] 3) :: R) rfl call409 ?_ ?_ ?_
 intro L D
 refine Yw (.exit 0) rs J (fun _ => pt l (ag [.bool false] 4) :: pt g (ag [iQ (rs.length : Nat)] 3) :: pt r (ag [iQ k] 3) :: pt m (ag [iQ f] 3) :: R) (fun i => ∀ j, j < i → (rs.getD j (0, 0, 0)).1 + (rs.getD j (0, 0, 0)).2.1 ≤ f) (fun B => ∃ i, i < rs.length ∧ (∀ j, j < i → (rs.getD j (0, 0, 0)).1 + (rs.getD j (0, 0, 0)).2.1 ≤ f) ∧ (¬ (rs.getD i (0, 0, 0)).1 + (rs.getD i (0, 0, 0)).2.1 ≤ f) ∧ B = pt l (ag [.bool (decide ((rs.getD i (0, 0, 0)).1 < f + k))] 4) :: pt g (ag [iQ (i : Nat)] 3) :: pt r (ag [iQ k] 3) :: pt m (ag [iQ f] 3) :: R) ((sV (r1 := pt) (b1 := K) (r2 := pt) (b2 := bt) (r3 := osl 445 3) (b3 := .slice a rs.length c)).trans (QaN _)) (fun j e => absurd e (QbE j)) (fun h => ⟨h, rfl⟩) (fun S h => by obtain ⟨i, v, w, M, rfl⟩ := h; exact ⟨i, v, w, M, rfl⟩) ?_
 intro i T s y
 have N := t.get s
 obtain ⟨x, d⟩ : ∃ x, rs.getD i (0, 0, 0) = x := ⟨_, rfl⟩
 rw [d] at N ⊢
 simp only [Qax, Qaw]
 refine A2 rfl rfl ?_
 refine aO (aY (ae rfl (bC rfl) (aL (aH (aY (aF rfl (di NE) ?_))))))
 rintro _ _ ⟨O, rfl, rfl⟩
 refine fh (gi ke rfl rfl rfl rfl rfl) ?_
 rintro _ _ rfl
 refine aL (A0 rfl ?_)
 refine mm (aO (mm (aO ?_)))
 refine Ys [(O, 0, _), (m, 0, _)] 5 mixed rfl (bL (bL aW)) (fun b => ?_)
 refine dr 0 rfl rfl rfl b (iS N9 ke rfl (by first | exact jR (k := 0) rfl | exact jR (k := 1) rfl) rfl) ?_
 refine dr 2 rfl rfl rfl b (co db rfl (by first | exact dq (k := 0) rfl rfl | exact dq (k := 1) rfl rfl)) ?_
 refine bY 1 (aB call372 (Yx x (by omega))) fun b => ?_
 refine dr 3 rfl rfl rfl b (H2 rfl rfl) ?_
 refine dr 4 rfl rfl rfl b (bC rfl) ?_
 refine aJ ?_
 refine aC rfl (fun z => ?_) fun z => ?_
 refine au 4 ?_
 refine A1 ?_
 have A : ∀ j, j < i + 1 → (rs.getD j (0, 0, 0)).1 + (rs.getD j (0, 0, 0)).2.1 ≤ f := fun j e => by
  rcases QaC j i with q | q
  exact y j q
  grind
 exact ⟨_, .inl ⟨rfl, A, rfl⟩, IO⟩
 refine aO (aY ?_)
 refine ae rfl (d5 rfl Gb rfl aS rfl (by first | exact Qac _ | rfl)) ?_
 refine ae rfl (co db rfl (aI rfl)) ?_
 refine ae rfl (co db rfl (aI rfl)) ?_
 refine ae rfl (co db rfl (aI rfl)) ?_
 refine ae rfl (dh rfl rfl (cj (by omega))) ?_
 refine ae rfl (nh rfl rfl) (ae rfl (bC rfl) (aL (aH ?_)))
 refine aC rfl (fun o => ?_) fun o => ?_
 refine aY ?_
 refine fh (lU iN rfl rfl rfl (Qab rfl) SetL.eq) ?_
 rintro _ _ rfl
 refine aL (oI (aH (aO (aY (ae rfl (aM rfl) (fh (lU aS rfl rfl rfl (Qab rfl) SetL.eq) ?_))))))
 rintro _ _ rfl
 refine aL (aH (CL (CN rfl (Ix ?_))))
 refine ⟨_, .inr ⟨rfl, _, ⟨i, s, y, by rw [d]; exact z, rfl⟩, rfl⟩, ?_⟩
 simp only [Qax]
 rw [d]
 first
   | (rw [Qai o]; exact inferInstance)
   | (rw [Qal o]; exact inferInstance)
 refine jk (oI (aH (aO (aY (ae rfl (aM rfl) (fh (lU aS rfl rfl rfl (Qab rfl) SetL.eq) ?_))))))
 rintro _ _ rfl
 refine aL (aH (CL (CN rfl (Ix ?_))))
 refine ⟨_, .inr ⟨rfl, _, ⟨i, s, y, by rw [d]; exact z, rfl⟩, rfl⟩, ?_⟩
 simp only [Qax]
 rw [d]
 first
   | (rw [Qai o]; exact inferInstance)
   | (rw [Qal o]; exact inferInstance)
 intro D C E
 obtain ⟨p, rfl⟩ := E
 have F : kT rs f = rs.length := Ee rs f rs.length (Qam _) (fun j e _ => by have := p j e; rwa [show rs.getD j (0, 0, 0) = rs[j] by simp [List.getD, e]] at this) (fun h => absurd h (Nat.lt_irrefl _))
 have G : oi rs f k = false := by grind [oi]
 refine oI (aH (aO ?_))
 refine bz [g, l] 4 fun b => ?_
 refine dr 0 rfl rfl rfl b (co db rfl (by first | exact dq (k := 0) rfl rfl | exact dq (k := 1) rfl rfl)) ?_
 refine dr 1 rfl rfl rfl b (co nP rfl (by first | exact dq (k := 0) rfl rfl | exact dq (k := 1) rfl rfl)) ?_
 refine dr 2 rfl rfl rfl b (bC rfl) ?_
 refine dr 3 rfl rfl rfl b (bC rfl) ?_
 refine hQ ?_
 refine aH (dE (rN (vw (.inl rfl) (.cons (aR rfl) (.cons (aR rfl) .nil)) ?_)))
 rw [F, G]
 exact ao
 intro D C E
 obtain ⟨i, s, v, w, rfl⟩ := E
 have H : rs.getD i (0, 0, 0) = rs[i] := by grind
 have F : kT rs f = i := Ee rs f i (by omega) (fun j e I => by have := v j I; rwa [show rs.getD j (0, 0, 0) = rs[j] by simp [List.getD, e]] at this) (fun h => by rw [← H]; exact w)
 have G : oi rs f k = decide ((rs.getD i (0, 0, 0)).1 < f + k) := by grind [oi]
 refine GX (aH (aO ?_))
 refine bz [g, l] 4 fun b => ?_
 refine dr 0 rfl rfl rfl b (co db rfl (by first | exact dq (k := 0) rfl rfl | exact dq (k := 1) rfl rfl)) ?_
 refine dr 1 rfl rfl rfl b (co nP rfl (by first | exact dq (k := 0) rfl rfl | exact dq (k := 1) rfl rfl)) ?_
 refine dr 2 rfl rfl rfl b (bC rfl) ?_
 refine dr 3 rfl rfl rfl b (bC rfl) ?_
 refine hQ ?_
 refine au 2 ?_
 refine rN (vw (.inl rfl) (.cons (aR rfl) (.cons (aR rfl) .nil)) ?_)
 rw [F, G]
 exact ao
theorem YB l a n c (j : l.length = n) (t : n ≤ 1000) (f : cG (aQ W0 R) a 3 cA l) : sP W0 329 [.slice a n c] R (fun v B => ∃ g i, v = .slice g n i ∧ B = osl 445 3 (.slice g n i) (l.flatMap cA) :: R) := by
 subst j
 refine am func329 ntmps329 ?_
 refine aa (A3 jM rfl rfl) ?_
 refine aC rfl (fun e => ?_) fun e => ?_
 refine au 7 ?_
 refine ac ?_
 have k : l = [] := by
  rcases l with _ | ⟨x, l⟩
  rfl
  obtain ⟨b, o, h, _⟩ := f 0 x rfl
  rw [e] at h; cases h
 subst k
 exact ⟨_, ⟨none, 0, rfl, rfl⟩, fm⟩
 have d := f.src (fun _ => rfl) (fun _ => trivial)
 refine jk (aH (aO (aY (aF rfl (vB jM ke rfl) ?_))))
 rintro _ _ ⟨u, rfl, rfl⟩
 refine aw ?_
 refine aF rfl (AA (sz := 3) (by_ := 24) (info := Tryz.t445) jM (by kernel_rfl) rfl rfl rfl rfl (by decide) rfl rfl (news := l.flatMap cA) (by
 rcases d with h | ⟨m, p, q, r⟩
 grind
 right; exact ⟨m, p, q, r.weak⟩) (by rw [cF qI]) (Ed l) (by simp only [maxLen]; omega) (by omega)) ?_
 rintro _ _ ⟨s, e, rfl, rfl⟩
 refine aw ?_
 refine ac ?_
 rw [Qac, Qaw]
 exact ⟨_, ⟨s, e, rfl, rfl⟩, IO⟩
def lq (rs : List Rn) (i : Nat) (x : Rn) : List Rn := rs.take i ++ x :: rs.drop i
theorem Eg rs i x : (lq rs i x).flatMap cA = (rs.take i).flatMap cA ++ cA x ++ (rs.drop i).flatMap cA := by
 grind [lq]
theorem AN {rs i} x (a : i ≤ rs.length) : (lq rs i x).length = rs.length + 1 := by
 grind [lq]
theorem AO (a : List Rn) i : a.flatMap cA = (a.take i).flatMap cA ++ (a.drop i).flatMap cA := by rw [← Qbt, QbS]
theorem YC rs a c bv x i (K : i ≤ rs.length) (hl : rs.length ≤ 1000) : sP W0 328 [.slice a rs.length c, iQ (i : Nat), .slice (some ⟨bv, 0, none⟩) 1 1] (osl 445 3 (.slice a rs.length c) (rs.flatMap cA) :: pt bv (ag (cA x) 445) :: R) (fun v B => ∃ U V, v = .slice U (rs.length + 1) V ∧ B = osl 445 3 (.slice U (rs.length + 1) V) ((lq rs i x).flatMap cA) :: R) := by
 have d : ((rs.take i).flatMap cA).length = i * 3 := by rw [cF qI, QaQ, Qbm K]
 have C : ((rs.drop i).flatMap cA).length = (rs.length - i) * 3 := by rw [cF qI, QcV]
 have l : (rs.flatMap cA).length = rs.length * 3 := cF qI rs
 refine am func328 ntmps328 ?_
 refine Al (E := 445) (sz := 3) (a := a) (c := c) (n := rs.length) (fun W => ?_)
 refine aw ?_
 refine jS 16 (t8 jM ke rfl (i := i) rfl rfl K rfl) ?_
 refine jT ?_
 refine aC rfl (fun c6 => ?_) fun c6 => ?_
 refine aO ?_
 refine aY (ae rfl (aM rfl) (ae rfl (aM rfl) ?_))
 refine aF rfl (eE (sz := 3) (by_ := 24) (info := Tryz.t445) jM (by kernel_rfl) rfl rfl rfl rfl (by decide) rfl rfl en rfl rfl (by simp only [maxLen]; omega) (by omega)) ?_
 rintro _ _ ⟨a1, c1, rfl, rfl⟩
 refine aw ?_
 refine ac ?_
 obtain rfl : i = rs.length := by omega
 refine ⟨_, ⟨a1, c1, rfl, rfl⟩, ?_⟩
 rw [Eg, QaU (Qam _), List.drop_length, List.flatMap_nil, Qav]
 exact IO
 have x0 : i < rs.length := by omega
 refine fV (r := osl 445 3) (b := .slice a rs.length c) (ku (fun L X => by rw [X] at l; simp at l; omega) fun g n' x1 o L X h3 h4 N => ?_)
 cases L
 refine aw ?_
 refine aa (dQ (rs.length + 1)) ?_
 refine aa (Yp jM rfl) ?_
 refine ai (fun c8 => ?_) fun c8 => ?_
 refine aa (oM jM ke rfl rfl rfl (by omega)) ?_
 refine aa (dQ (rs.length + 1)) ?_
 refine aa (nV (rs.length + 1 - i)) ?_
 refine aF rfl (Yn (sz := 3) (by_ := 24) (info := Tryz.t445) (k := rs.length + 1 - i) (olds := (rs.take i).flatMap cA) jM jj (by kernel_rfl) rfl rfl rfl rfl (by decide) rfl rfl rfl (.inr ⟨g, 0, rfl, J4 (l2 := (rs.drop i).flatMap cA ++ o) (by rw [← QaJ, ← AO]; exact en (b := g))⟩) d (by omega) (by omega) (by simp only [maxLen]; omega) (by omega)) ?_
 rintro _ _ ⟨a9, Y, M, rfl, t, rfl⟩
 rw [show i + (rs.length + 1 - i) = rs.length + 1 by omega]
 refine fV (r := osl 445 3) (b := .slice a9 (rs.length + 1) Y) (ku (fun j z => by
  have := Qah List.length z
  rw [Qae, d, t] at this; simp at this; omega) fun O n9 Z u j z q3 q4 q5 => ?_)
 cases j
 refine aw ?_
 refine aa (t8 jM ke rfl (i := i) (a' := some ⟨O, i * 3, none⟩) rfl rfl (by omega) (by rw [m7, Qaa (by omega)]; simp [jy])) ?_
 refine ah (vD jM ke rfl rfl (m := 1) (vs := cA x) (Qbm (by omega)) (en (b := bv)) rfl (Ec x) (by rw [Qae, Qae, d, t]; omega) rfl) ?_
 refine bz [] 9 fun h => ?_
 refine aj 0 3 h ?_
 refine az 3 h (dQ (i + 1)) ?_
 refine az 4 h (t8 jM ke rfl (i := i + 1) (a' := some ⟨O, (i + 1) * 3, none⟩) rfl rfl (by omega) (by rw [m7, Qaa (by omega)]; simp [jy])) ?_
 refine aj 5 2 h ?_
 refine az 7 h (t8 jM ke rfl (i := i) (a' := some ⟨g, i * 3, none⟩) rfl rfl (by omega) (by rw [m7, Qaa (by omega)]; simp [jy])) ?_
 refine bY 8 (vD jM ke rfl rfl (m := rs.length - i) (vs := (rs.drop i).flatMap cA) (Qbm (by omega)) (J5 (b := g) (l1 := (rs.take i).flatMap cA) (l3 := o) (by rw [← AO]) d) C (Ed _) (by rw [xb, Qae, Qae, d, t]; omega) rfl) fun h => ?_
 refine aJ ?_
 refine ac ?_
 obtain ⟨F, G, rfl, H⟩ : ∃ F G, M = F ++ G ∧ F.length = 3 := ⟨M.take 3, M.drop 3, (QbS 3 M).symm, by rw [QaQ]; omega⟩
 have I : G.length = (rs.length - i) * 3 := by rw [Qae] at t; omega
 have Q : d7 (d7 ((rs.take i).flatMap cA ++ (F ++ G) ++ u) (i * 3) (cA x)) ((i + 1) * 3) ((rs.drop i).flatMap cA) = (lq rs i x).flatMap cA ++ u := by
  rw [Eg, ← d, show (rs.take i).flatMap cA ++ (F ++ G) ++ u = (rs.take i).flatMap cA ++ F ++ (G ++ u) by simp, AL (by rw [H]; rfl)]
  have e : (i + 1) * 3 = ((rs.take i).flatMap cA ++ cA x).length := by rw [Qae, d, qI, Qcf]
  rw [e, ← QaJ, AL (by rw [I, C])]
 rw [Q]
 have f : ((lq rs i x).flatMap cA).length = (rs.length + 1) * 3 := by rw [cF qI, AN x K]
 refine ⟨_, ⟨some ⟨O, 0, none⟩, Y, rfl, rfl⟩, ?_⟩
 exact fk z q3 f (by rw [Qae, f]; rw [Qae, Qae, d, Qae, H, I] at q5; omega)
 refine aa (dQ (rs.length + 1)) ?_
 refine aa (oM jM ke rfl rfl rfl (by omega)) ?_
 refine aa (dQ (i + 1)) ?_
 refine aa (t8 jM ke rfl (i := i + 1) (a' := some ⟨g, (i + 1) * 3, none⟩) rfl rfl (by omega) (by rw [m7, Qaa (by omega)]; simp [jy])) ?_
 refine aa (Yo (v := .bool false) rfl (fun w hO => by have L := Yr (P := Tryz.prog) (tR := 4) (oa := 0) (na := 1) (ca := 1) (ob := (i + 1) * 3) (nb := rs.length + 1 - (i + 1)) (cb := c - (i + 1)) (ba := bv) (ga := g) (la := cA x) (lb := rs.flatMap cA ++ o) jM ke (QaG _) (by rw [N]; omega) hO; rw [run_callFunc_extern func373 (by kernel_rfl) (by kernel_rfl) (by kernel_rfl) (e := Extern.SlicesOverlaps.overlaps #[439, 439] #[4]) (by kernel_rfl), L]; rfl)) ?_
 refine aC rfl (fun D => ?_) fun D => ?_
 refine au 1 ?_
 refine bz [] 9 fun h => ?_
 refine aj 0 3 h ?_
 refine az 3 h (dQ (i + 1)) ?_
 refine az 4 h (t8 jM ke rfl (i := i + 1) (a' := some ⟨g, (i + 1) * 3, none⟩) rfl rfl (by omega) (by rw [m7, Qaa (by omega)]; simp [jy])) ?_
 refine aj 5 2 h ?_
 refine az 7 h (t8 jM ke rfl (i := i) (a' := some ⟨g, i * 3, none⟩) rfl rfl (by omega) (by rw [m7, Qaa (by omega)]; simp [jy])) ?_
 refine bY 8 (vD jM ke rfl rfl (m := rs.length - i) (vs := (rs.drop i).flatMap cA) ((Nat.min_eq_right (by omega)).trans (by omega)) (J5 (b := g) (l1 := (rs.take i).flatMap cA) (l3 := o) (by rw [← AO]) d) C (Ed _) (by omega) rfl) fun h => ?_
 refine aJ ?_
 refine aa (t8 jM ke rfl (i := i) (a' := some ⟨g, i * 3, none⟩) rfl rfl (by omega) (by rw [m7, Qaa (by omega)]; simp [jy])) ?_
 refine ah (vD jM ke rfl rfl (m := 1) (vs := cA x) (Qbm (by omega)) (en (b := bv)) rfl (Ec x) (by rw [xb]; omega) rfl) ?_
 refine ac ?_
 have x2 : 3 ≤ o.length := by rw [Qae, l] at N; omega
 obtain ⟨A, y, rfl, S⟩ : ∃ A y, o = A ++ y ∧ A.length = 3 := ⟨o.take 3, o.drop 3, (QbS 3 o).symm, by rw [QaQ]; omega⟩
 obtain ⟨j, z, hq, J⟩ : ∃ j z, (rs.drop i).flatMap cA ++ A = j ++ z ∧ j.length = 3 := ⟨((rs.drop i).flatMap cA ++ A).take 3, ((rs.drop i).flatMap cA ++ A).drop 3, (QbS 3 _).symm, by rw [QaQ, Qae]; omega⟩
 have T : z.length = ((rs.drop i).flatMap cA).length := by
  have := Qah List.length hq
  rw [Qae, Qae] at this; omega
 have Q : d7 (d7 (rs.flatMap cA ++ (A ++ y)) ((i + 1) * 3) ((rs.drop i).flatMap cA)) (i * 3) (cA x) = (lq rs i x).flatMap cA ++ y := by
  have h0 : rs.flatMap cA ++ (A ++ y) = (rs.take i).flatMap cA ++ j ++ z ++ y := by
   conv => lhs; rw [AO rs i]
   rw [QaJ, ← QaJ ((rs.drop i).flatMap cA), hq]
   simp only [QaJ]
  have e : (i + 1) * 3 = ((rs.take i).flatMap cA ++ j).length := by rw [Qae, d, J, Qcf]
  have h6 : (rs.take i).flatMap cA ++ j ++ (rs.drop i).flatMap cA ++ y = (rs.take i).flatMap cA ++ j ++ ((rs.drop i).flatMap cA ++ y) := by simp only [QaJ]
  have h7 := AL (p := (rs.take i).flatMap cA) (q := j) (s := (rs.drop i).flatMap cA ++ y) (r := cA x) (by rw [J]; rfl)
  rw [d] at h7
  rw [h0, e, AL T, h6, h7, Eg]
  simp only [QaJ]
 rw [Q]
 have f : ((lq rs i x).flatMap cA).length = (rs.length + 1) * 3 := by rw [cF qI, AN x K]
 refine ⟨_, ⟨some ⟨g, 0, none⟩, c, rfl, rfl⟩, ?_⟩
 exact fk (by omega) h3 f (by rw [Qae, f]; rw [Qae, Qae, l, S] at N; omega)
 first | exact absurd rfl D | exact absurd (by decide) D
def iH (rs : List Rn) (n f k w : Int) : Int := if f < 0 ∨ k < 1 ∨ n < f ∨ n - f < k ∨ w < 0 ∨ 64 ≤ w then 1 else if oi rs f k then 5 else 0
def kJ (rs : List Rn) (n f k w : Int) : List Rn := if iH rs n f k w = 0 then lq rs (kT rs f) (f, k, w) else rs
theorem J7 {rs n f k w} (h : qK rs) (c : n ≤ 64) : qK (kJ rs n f k w) := by
 unfold kJ; split
 rename_i a
 have d : ¬ (f < 0 ∨ k < 1 ∨ n < f ∨ n - f < k ∨ w < 0 ∨ 64 ≤ w) := fun q => by rw [iH, Qad q] at a; exact absurd a (by decide)
 intro x b
 rw [lq] at b
 rcases QaS.1 b with q | q
 exact h x (QbJ q)
 rcases QaO.1 q with rfl | q
 grind
 exact h x (List.mem_of_mem_drop q)
 exact h
theorem YD {rs n f k w} : (kJ rs n f k w).length ≤ rs.length + 1 := by
 grind [kJ, AN, Ef]
theorem YE b rs n (y : 0 ≤ n ∧ n ≤ 64) (h : qK rs) (z : rs.length ≤ 900) f k w : sQ W0 261 [pQ b, iQ f, iQ k, iQ w] (qJ b (rs, n) :: R) (iQ (iH rs n f k w)) (qJ b (kJ rs n f k w, n) :: R) := by
 refine am func261 ntmps261 ?_
 refine Yt (b := b) fun a c => ?_
 dsimp only
 refine aw ?_
 refine ah (ap call326 (Yy b rs.length c a n)) ?_
 refine ai (fun j => ?_) fun j => ?_
 refine ac ?_
 have d : iH rs n f k w = 1 := by grind [iH]
 rw [kJ, d, Qaa (by decide)]
 exact ⟨_, ⟨rfl, rfl⟩, rU rfl rfl⟩
 refine ai (fun l => ?_) fun l => ?_
 refine ac ?_
 have d : iH rs n f k w = 1 := by grind [iH]
 rw [kJ, d, Qaa (by decide)]
 exact ⟨_, ⟨rfl, rfl⟩, rU rfl rfl⟩
 refine ai (fun m => ?_) fun m => ?_
 refine ac ?_
 have d : iH rs n f k w = 1 := by grind [iH]
 rw [kJ, d, Qaa (by decide)]
 exact ⟨_, ⟨rfl, rfl⟩, rU rfl rfl⟩
 refine aa gz ?_
 refine ai (fun o => ?_) fun o => ?_
 refine ac ?_
 have d : iH rs n f k w = 1 := by grind [iH]
 rw [kJ, d, Qaa (by decide)]
 exact ⟨_, ⟨rfl, rfl⟩, rU rfl rfl⟩
 refine ai (fun p => ?_) fun p => ?_
 refine ac ?_
 have d : iH rs n f k w = 1 := by grind [iH]
 rw [kJ, d, Qaa (by decide)]
 exact ⟨_, ⟨rfl, rfl⟩, rU rfl rfl⟩
 refine ai (fun q => ?_) fun q => ?_
 refine ac ?_
 have d : iH rs n f k w = 1 := by grind [iH]
 rw [kJ, d, Qaa (by decide)]
 exact ⟨_, ⟨rfl, rfl⟩, rU rfl rfl⟩
 refine ah (cv call327 (YA b c rs n a h (by omega) f k (by omega))) ?_
 refine ai (fun i => ?_) fun i => ?_
 refine ac ?_
 have d : iH rs n f k w = 5 := by grind [iH]
 rw [kJ, d, Qaa (by decide)]
 exact ⟨_, ⟨rfl, rfl⟩, rU rfl rfl⟩
 have d : iH rs n f k w = 0 := by grind [iH]
 have g := Ef rs f
 refine mr (E := 445) (sz := 3) (a := a) (n := rs.length) (c := c) cA rs qI (by decide) rfl (fun r => ?_)
 refine aw ?_
 refine aF rfl (aB call329 (YB rs a rs.length c rfl (by omega) r)) ?_
 rintro _ s ⟨t, u, rfl, e⟩
 obtain rfl := e.symm
 refine aw ?_
 refine dw (iA jM ke NE rfl (fp rfl rfl hJ) rfl (by decide) (by decide) (by decide)) fun v => ?_
 refine aF rfl (cv call328 (YC rs t u v (f, k, w) (kT rs f) g (by omega))) ?_
 rintro _ s ⟨A, x, rfl, e⟩
 obtain rfl := e.symm
 refine aw ?_
 refine ar dX ?_
 refine ac ?_
 rw [kJ, d, Qad rfl]
 exact ⟨_, ⟨rfl, rfl⟩, rU (AN _ g).symm rfl⟩
def ja : List Rn → Int → Option Int
 | [], _ => none
 | x :: l, i => if x.1 ≤ i ∧ i < x.1 + x.2.1 then some x.2.2 else ja l i
theorem YF {rs} (h : qK rs) : ∀ {x w : Int}, ja rs x = some w → 0 ≤ w ∧ w < 64 := by
 intro x w a
 induction rs with
 | nil => cases a
 | cons y l b =>
  rw [ja] at a
  split at a
  cases a
  have := h y (by simp)
  exact ⟨this.2.2.2.1, this.2.2.2.2⟩
  exact b (fun z c => h z (by simp [c])) a
def uA (rs : List Rn) : Prop := rs.Pairwise fun x y => x.1 + x.2.1 ≤ y.1
theorem J8 x l f k : oi (x :: l) f k = if x.1 + x.2.1 ≤ f then oi l f k else decide (x.1 < f + k) := by
 grind [oi, kT]
theorem J9 x y l f : lq (x :: l) (kT (x :: l) f) y = if x.1 + x.2.1 ≤ f then x :: lq l (kT l f) y else y :: x :: l := by
 grind [lq, kT]
theorem YG {l i} (h : ja l i ≠ none) : ∃ y ∈ l, y.1 ≤ i ∧ i < y.1 + y.2.1 := by
 induction l with
 | nil => exact absurd rfl h
 | cons x l a =>
  rw [ja] at h
  by_cases q : x.1 ≤ i ∧ i < x.1 + x.2.1
  grind
  grind
theorem Ja : ∀ {d : List Rn} {f k : Int}, uA d → (∀ x ∈ d, 1 ≤ x.2.1) → 1 ≤ k → (oi d f k = true ↔ ∃ i, f ≤ i ∧ i < f + k ∧ ja d i ≠ none)
 | [], f, k, _, _, _ => by
  constructor
  grind [oi]
  rintro ⟨i, _, _, h⟩; exact absurd rfl h
 | x :: l, f, k, g, e, j => by
  obtain ⟨p, m⟩ := Qbh.1 g
  have r := e x (by simp)
  rw [J8]
  by_cases q : x.1 + x.2.1 ≤ f
  rw [Qad q, Ja m (fun y n => e y (by simp [n])) j]
  constructor
  rintro ⟨i, a, b, c⟩; exact ⟨i, a, b, by rw [ja, Qaa (by omega)]; exact c⟩
  grind [ja]
  rw [Qaa q, Qaj]
  constructor
  intro h
  by_cases o : f ≤ x.1
  exact ⟨x.1, o, h, by rw [ja, Qad (by omega)]; simp⟩
  exact ⟨f, QbR _, by omega, by rw [ja, Qad (by omega)]; simp⟩
  grind [ja, YG]
theorem Jb : ∀ {a : List Rn} {f k w : Int} (i : Int), ja (lq a (kT a f) (f, k, w)) i = if f ≤ i ∧ i < f + k then some w else ja a i
 | [], f, k, w, i => by
  show ja [(f, k, w)] i = _
  rw [ja, ja]; rfl
 | x :: l, f, k, w, i => by
  rw [J9]
  by_cases q : x.1 + x.2.1 ≤ f
  rw [Qad q, ja, Jb i, ja]
  by_cases b : x.1 ≤ i ∧ i < x.1 + x.2.1
  grind
  grind
  grind [ja]
theorem YH {x y l i} (h : x ∈ lq l i y) : x = y ∨ x ∈ l := by
 grind [lq]
theorem Jc : ∀ {c : List Rn} {f k w : Int}, uA c → (∀ x ∈ c, 1 ≤ x.2.1) → oi c f k = false → uA (lq c (kT c f) (f, k, w))
 | [], f, k, w, _, _, _ => List.pairwise_singleton _ _
 | x :: l, f, k, w, d, e, b => by
  obtain ⟨g, h⟩ := Qbh.1 d
  have i := e x (by simp)
  rw [J8] at b
  rw [J9]
  by_cases q : x.1 + x.2.1 ≤ f
  rw [Qad q] at b ⊢
  refine Qbh.2 ⟨fun y a => ?_, Jc h (fun y a => e y (by simp [a])) b⟩
  rcases YH a with rfl | a
  exact q
  exact g y a
  rw [Qaa q] at b ⊢
  have b := of_decide_eq_false b
  refine Qbh.2 ⟨fun y a => ?_, d⟩
  rcases QaO.1 a with rfl | a
  grind
  grind
theorem Jd {rs n f k w} (h : uA rs) (a : ∀ x ∈ rs, 1 ≤ x.2.1) : uA (kJ rs n f k w) := by
 grind [kJ, iH, Jc]
structure RT (rs : List Rn) (L : List Int) : Prop where
  at_ : ∀ i : Nat, i < L.length → L.getD i (-1) = (ja rs i).getD (-1)
  s : uA rs
  ok : qK rs
def jb (L : List Int) (f k w : Int) : Int := if f < 0 ∨ k < 1 ∨ (L.length : Int) < f ∨ L.length - f < k ∨ w < 0 ∨ 64 ≤ w then 1 else if (List.range k.toNat).any (fun i => decide (0 ≤ L.getD (f.toNat + i) (-1))) then 5 else 0
def mK (L : List Int) (f k w : Int) : List Int := if jb L f k w = 0 then (List.range L.length).map fun (i : Nat) => if f ≤ i ∧ (i : Int) < f + k then w else L.getD i (-1) else L
theorem Je {L f k w} : (mK L f k w).length = L.length := by unfold mK; split <;> simp
theorem Jf {rs} (h : qK rs) {i} : 0 ≤ (ja rs i).getD (-1) ↔ ja rs i ≠ none := by
 cases e : ja rs i with
 | none => simp
 | some w => have := YF h e; simp; omega
theorem YI {rs L} (h : RT rs L) {f k : Int} (g : 0 ≤ f ∧ 1 ≤ k ∧ f + k ≤ L.length) : (List.range k.toNat).any (fun i => decide (0 ≤ L.getD (f.toNat + i) (-1))) = oi rs f k := by
 rw [Qag, Ja h.s (fun x j => (h.ok x j).2.1) g.2.1, Qbo]
 constructor
 rintro ⟨i, e, d⟩
 have e := QbD.1 e
 have d := Qar d
 rw [h.at_ _ (by omega)] at d
 exact ⟨((f.toNat + i : Nat) : Int), by omega, by omega, (Jf h.ok).1 d⟩
 rintro ⟨i, a, b, c⟩
 refine ⟨(i - f).toNat, QbD.2 (by omega), Qai ?_⟩
 rw [h.at_ _ (by omega), show ((f.toNat + (i - f).toNat : Nat) : Int) = i by omega]
 exact (Jf h.ok).2 c
theorem Jg {rs L} (h : RT rs L) {n : Int} (a : n = L.length) f k w : jb L f k w = iH rs n f k w := by
 grind [jb, iH, YI]
theorem YJ {rs L} (h : RT rs L) {n : Int} (d : n = L.length) (b : n ≤ 64) f k w : RT (kJ rs n f k w) (mK L f k w) := by
 refine ⟨fun i a => ?_, Jd h.s (fun x e => (h.ok x e).2.1), J7 h.ok b⟩
 rw [Je] at a
 unfold mK kJ
 rw [Jg h d]
 by_cases q : iH rs n f k w = 0
 rw [Qad q, Qad q, Jb]
 simp only [List.getD, QcN, List.getElem?_range a, Option.map_some, Option.getD_some]
 by_cases c : f ≤ (i : Int) ∧ (i : Int) < f + k
 grind
 rw [Qaa c, Qaa c]; exact h.at_ i a
 rw [Qaa q, Qaa q]; exact h.at_ i a
theorem YK n : RT [] (List.replicate n (-1)) := ⟨fun i a => by simp at a; simp [List.getD, a, ja], List.Pairwise.nil, fun x b => by simp at b⟩
section
variable {P : Program} {W0 : World} {N : FSz} {e : bi} {A R : List HP} {t : TypeId} {v : Value} {x y : Operand} {l' ys : List Value}
theorem YL {E sz n c g j : Nat} [h : Tk (osl E sz) (.slice (some ⟨g, 0, none⟩) n c) A ys R] (p : ∀ w, (sizeOf t).run P w = .ok 1 w) (q : ev e x = some (.pointer (some ⟨g, j, none⟩))) (s : ev e y = some v)
    (u : v.oneCell' = true) (U : j < ys.length) (V : ys.set j v = l') : cY P W0 N e A (.store t x y) (fun _ B => B = osl E sz (.slice (some ⟨g, 0, none⟩) n c) l' :: R) := by
 intro a w d z f C D K Q F G k
 rcases (G.tk (r := osl E sz) (b := .slice (some ⟨g, 0, none⟩) n c)).osl with ⟨i, _, _⟩ | ⟨W, X, H, m, i, I, J, Y, Z, L⟩
 cases i
 cases i
 refine lU (b := g) (l := ys ++ m) p q s u (by grind) rfl a w d z f C D K Q F L fun M O B S o => ?_
 subst S
 refine k M O _ rfl (o.ent ?_)
 have T : (ys ++ m).set j v = l' ++ m := by grind
 rw [T]
 exact fk I J (by grind) (by grind)
theorem ek {S} {E n c j d f b a : Nat} {k i a'} (g : P.underlying t = some (.slice E)) (h : ∀ w, (sizeOf E).run P w = .ok d w) (l : ev e x = some (.slice a' n c)) (m : a' = some ⟨b, a, none⟩) (o : ev e y = some (.int k i))
    (p : i = j) (q : j < n) (r : a + j * d = f) : bT P S N e (.indexAddr t x y) (.pointer (some ⟨b, f, none⟩)) := by
 grind [jQ]
instance (priority := high) ent_nil {A : List HP} : Ent A [] := ⟨fun l _ => ⟨[], l, rfl, QaN _⟩⟩
end
abbrev eA (c : Cfg) : Obj := ag (dy c) 30
def qL (c : Cfg) (i : Nat) : Rn := c.rl.getD i (0, 0, 0)
def jF (c : Cfg) : Nat → List Rn
 | 0 => []
 | i + 1 => if gJ (qL c i).1 c.cats = true then kJ (jF c i) 32 (qL c i).2.1 (qL c i).2.2 i else jF c i
theorem Jh c : ∀ i, qK (jF c i) ∧ (jF c i).length ≤ i ∧ uA (jF c i)
 | 0 => ⟨fun x a => by simp [jF] at a, Qam _, List.Pairwise.nil⟩
 | i + 1 => by
  obtain ⟨b, e, d⟩ := Jh c i
  rw [jF]; split
  exact ⟨J7 b (by decide), Qba YD (by omega), Jd d fun x a => (b x a).2.1⟩
  grind
def rV (c : Cfg) (i : Nat) : Bool := !(gJ (qL c i).1 c.cats && decide (iH (jF c i) 32 (qL c i).2.1 (qL c i).2.2 i = 0))
theorem YM W0 b1 b4 bt c (hl : c.rl.length ≤ 8) (hs : ∀ A, cG (aQ W0 A) c.ra 3 i9 c.rl) :
    WF W0 260 [pQ b1, pQ b4] c.rl.length (fun i => cq [pt b1 (eA c), pt b4 (ag [pQ bt] 385), qJ bt (jF c i, 32)]) (rV c) := ⟨call260, fun i d R => by
 refine pG ?_
 simp only [Qax, Qaw]
 obtain ⟨g, o, hra, hc⟩ := (hs (pt b1 (eA c) :: R)).at_ d
 obtain ⟨x, hx⟩ : ∃ x, c.rl[i] = x := ⟨_, rfl⟩
 have e : qL c i = x := by grind [qL]
 rw [hx] at hc
 obtain ⟨h1, h2, h3⟩ := Jh c i
 have f : jF c (i + 1) = if gJ x.1 c.cats = true then kJ (jF c i) 32 x.2.1 x.2.2 i else jF c i := by rw [jF, e]
 have h : rV c i = !(gJ x.1 c.cats && decide (iH (jF c i) 32 x.2.1 x.2.2 i = 0)) := by rw [rV, e]
 rw [f, h]
 generalize jF c i = T at h1 h2 h3 ⊢
 refine am func260 ntmps260 ?_
 refine aa (ek Ns Ca rfl hra rfl rfl d (by first | exact Qac _ | rfl)) ?_
 refine aa (dj hc.weak) ?_
 refine bu fun k => ?_
 refine fh (gi Ca rfl rfl rfl rfl rfl) ?_
 rintro _ _ rfl
 refine aL (aH (aO (aY ?_)))
 refine ae rfl (d5 rfl zw rfl aS rfl (by first | exact Qac _ | rfl)) ?_
 refine ae rfl (co db rfl (aI rfl)) ?_
 refine ae rfl (d5 rfl Cc rfl aS rfl (by first | exact Qac _ | rfl)) ?_
 refine ae rfl (co db rfl (aI rfl)) ?_
 refine aF rfl (iz NR rfl (Ea x.1 c.cats)) ?_
 rintro _ j ⟨rfl, hB_⟩
 obtain rfl := hB_.symm
 refine ae rfl (rz rfl) (ae rfl (aM rfl) ?_)
 refine dk rfl rfl rfl ?_ ?_
 intro a
 have b : gJ x.1 c.cats = false := by grind
 rw [b]
 refine aw ?_
 refine ac ?_
 refine ⟨_, ⟨?_, rfl⟩, ?_⟩
 refine Qah Value.bool ?_
 first
   | rfl
   | (rw [Qbe, bne, Qag]; simp)
 first
   | (rw [Qad rfl]; exact inferInstance)
   | (rw [Qaa (by decide)]; exact inferInstance)
 intro a
 have b : gJ x.1 c.cats = true := by grind
 rw [b]
 refine ae rfl (co isAgg385 rfl (aI rfl)) ?_
 refine cM rfl rfl ?_
 refine ae rfl (d5 rfl zw rfl aS rfl (by first | exact Qac _ | rfl)) ?_
 refine cM rfl rfl (ae rfl (co db rfl (aI rfl)) ?_)
 refine cM rfl rfl ?_
 refine ae rfl (d5 rfl zw rfl aS rfl (by first | exact Qac _ | rfl)) ?_
 refine cM rfl rfl (ae rfl (co db rfl (aI rfl)) ?_)
 refine cM rfl rfl (ae rfl (aM rfl) (cM rfl rfl ?_))
 refine aF rfl (ir call261 rfl (YE bt T 32 (by decide) h1 (by omega) x.2.1 x.2.2 i)) ?_
 rintro _ j ⟨rfl, hB_⟩
 obtain rfl := hB_.symm
 refine cM rfl rfl (ae rfl (oJ rfl rfl) (ae rfl (iR rfl rfl) (ae rfl (bC rfl) (aL (aH (dE (ac ?_)))))))
 refine ⟨_, ⟨?_, rfl⟩, ?_⟩
 refine Qah Value.bool ?_
 first
   | rfl
   | (rw [Qbe, bne, Qag]; simp)
 first
   | (rw [Qad rfl]; exact inferInstance)
   | (rw [Qaa (by decide)]; exact inferInstance)
 ⟩
def oZ (c : Cfg) : Bool := decide (8 < c.rl.length) || mH (rV c) c.rl.length
theorem YN c (f : ∀ A, cG (aQ W0 A) c.ra 3 i9 c.rl) : sP W0 180 [.agg (dy c).toArray] R (fun v B => ∃ r, v = .tuple #[iQ r, .bool (oZ c)] ∧ B = R) := by
 refine am func180 ntmps180 ?_
 refine bB fun d => ?_
 refine ai (fun g => ?_) fun g => ?_
 refine ax ?_
 rw [oZ, Qai (by omega), Qbv]
 exact ⟨_, ⟨0, rfl, rfl⟩, IO⟩
 refine aF rfl (aB call259 (Yz 32 (by decide))) ?_
 rintro _ h ⟨a, rfl, b⟩
 obtain rfl := b.symm
 refine aw ?_
 refine dw (rD zeroValue385 rfl) fun e => ?_
 refine ar dX ?_
 refine eK (B := kH 0 (cq [pt d (eA c), pt e (ag [pQ a] 385), qJ a ([], 32)]) :: R) inferInstance ?_
 refine A5 ?_
 simp only [Qax, Qaw]
 refine aw ?_
 refine aF rfl (rF (B := kH 0 (cq [pt d (eA c), pt e (ag [pQ a] 385), qJ a ([], 32)]) :: R) inferInstance (aB Cq (J2 260 [pQ d, pQ e] c.rl.length (fun i => cq [pt d (eA c), pt e (ag [pQ a] 385), qJ a (jF c i, 32)]) (rV c) (YM W0 d e a c (by omega) f) (by omega)))) ?_
 rintro _ h ⟨r, rfl, b⟩
 obtain rfl := b.symm
 refine aw ?_
 refine ax ?_
 rw [oZ, Qal (by omega), Qbs]
 exact ⟨_, ⟨r, rfl, rfl⟩, IO⟩
def oj (c : Cfg) (g : Int) (k : Nat) : Bool := (c.pl.take k).any fun q => decide (q.2 = g)
theorem YO c g (k : Nat) (s : k < c.pl.length) (t : c.pl.length ≤ 8) (f : c.pl.length ≤ c.pc) (m : ∀ A, cG (aQ W0 A) c.pa 2 jr c.pl) : sQ W0 264 [.agg (dy c).toArray, iQ g, iQ k] R (.bool (oj c g k)) R := by
 refine am func264 ntmps264 ?_
 refine bB fun u => ?_
 refine aa (oM zn zi rfl rfl (h := k) rfl (by omega)) ?_
 refine cW (fun i : Nat => i ≤ k ∧ ∀ j, j < i → (c.pl.getD j (0, 0)).2 ≠ g) (fun i => [(1, iQ g), (12, .slice c.pa k c.pc), (13, iQ k), (14, iQ i)]) (fun _ => R) (fun i => k - i) 0 ?_ ?_
 grind
 intro i ⟨v, w⟩
 refine aw ?_
 refine ai (fun n => ?_) fun n => ?_
 have a : i < c.pl.length := by omega
 have b : i < k := by omega
 obtain ⟨y, o, d, l⟩ := (m R).at_ a
 obtain ⟨x, p⟩ : ∃ x, c.pl[i] = x := ⟨_, rfl⟩
 have q : c.pl.getD i (0, 0) = x := by grind
 rw [p] at l
 refine aa (ek zn zi rfl d rfl rfl b (by first | exact Qac _ | rfl)) ?_
 refine aa (dj l.weak) ?_
 refine bu fun z => ?_
 refine ar aA ?_
 refine ai (fun r => ?_) fun r => ?_
 refine ac ?_
 have e : oj c g k = true := by
  grind [oj, Qbo, Qco.2]
 rw [e]
 exact ao
 refine aa bW ?_
 refine bR (i + 1) ?_
 grind
 refine ac ?_
 have e : oj c g k = false := by
  grind [oj, Qcv, Qco.1]
 rw [e]
 exact ao
def qM (c : Cfg) (i : Nat) : Bool := !gJ (c.pl.getD i (0, 0)).1 c.cats || (decide ((c.pl.getD i (0, 0)).2 ≠ -1) && (!ia c (c.pl.getD i (0, 0)).2 || decide ((c.pl.getD i (0, 0)).1 ≠ kS c (c.pl.getD i (0, 0)).2) || oj c (c.pl.getD i (0, 0)).2 i))
theorem YP W0 b1 c (D : c.pl.length ≤ 8) (f : c.pl.length ≤ c.pc) (C : ∀ A, cG (aQ W0 A) c.pa 2 jr c.pl) (l : ∀ A, cG (aQ W0 A) c.ga 3 i9 c.gl) :
    WF W0 262 [pQ b1] c.pl.length (fun _ => cq [pt b1 (eA c)]) (qM c) := ⟨call262, fun i r R => by
 refine pG ?_
 simp only [Qax, Qaw]
 obtain ⟨g, o, hpa, hc⟩ := (C (pt b1 (eA c) :: R)).at_ r
 obtain ⟨⟨p, q⟩, hx⟩ : ∃ x, c.pl[i] = x := ⟨_, rfl⟩
 have s : c.pl.getD i (0, 0) = (p, q) := by grind
 have E : qM c i = (!gJ p c.cats || (decide (q ≠ -1) && (!ia c q || decide (p ≠ kS c q) || oj c q i))) := by rw [qM, s]
 rw [hx] at hc
 rw [E]
 have m : ∃ (d e j : Nat) (y : List Value), (∀ A, bE (aQ W0 A) d (e + j * 3) y) ∧ (ia c q = true → c.ga = some ⟨d, e, none⟩ ∧ q = (j : Int) ∧ j < c.gl.length ∧ ∃ u : Int × Int × Int, y = i9 u ∧ kS c q = u.1) := by
  cases F : ia c q with
  | false => exact ⟨0, 0, 0, [], fun A k v G => by simp at G, fun h => by cases h⟩
  | true =>
   have M : 0 ≤ q ∧ q < c.gl.length := Qar F
   obtain ⟨j, rfl⟩ : ∃ j : Nat, q = (j : Int) := ⟨q.toNat, by omega⟩
   have n : j < c.gl.length := by omega
   obtain ⟨d, e, hga, _⟩ := (l []).at_ n
   refine ⟨d, e, j, i9 c.gl[j], fun A => ?_, fun _ => ⟨hga, rfl, n, c.gl[j], rfl, ?_⟩⟩
   obtain ⟨g2, o2, h2, hc2⟩ := (l A).at_ n
   rw [hga] at h2; cases h2; exact hc2
   grind [kS]
 obtain ⟨d, e, j, y, hcv, hrw⟩ := m
 obtain ⟨w, hw⟩ : ∃ w, ia c q = w := ⟨_, rfl⟩
 rw [hw] at hrw ⊢
 refine am func262 ntmps262 ?_
 refine aa (ek zn zi rfl hpa rfl rfl r (by first | exact Qac _ | rfl)) ?_
 refine aa (dj hc.weak) ?_
 refine bu fun H => ?_
 refine ar aA ?_
 refine ah (aB NR (Ea p c.cats)) ?_
 refine aC rfl ?_ ?_
 intro I
 refine aw ?_
 refine ac ?_
 have z : gJ p c.cats = false := by grind
 rw [z]
 exact ao
 intro I
 have z : gJ p c.cats = true := by grind
 rw [z]
 refine aw ?_
 refine aC rfl ?_ ?_
 intro J
 refine aw ?_
 refine ac ?_
 rw [Qal (by omega)]
 exact ao
 intro J
 refine aw ?_
 refine ah (aB wW (uz c q)) ?_
 rw [hw]
 refine aC rfl ?_ ?_
 intro K
 refine aw ?_
 refine ac ?_
 have B : w = false := by grind
 rw [B, Qai (by omega)]
 exact ao
 intro K
 obtain rfl : w = true := by grind
 obtain ⟨hga, hqj, n, u, rfl, hlu⟩ := hrw rfl
 rw [hlu, Qai (by omega)]
 have L : ¬ q = -1 := by omega
 refine aw ?_
 refine fj [(b1, 0, dy c), (H, 0, jr (p, q)), (d, e + j * 3, i9 u)] 18 mixed rfl (bL (bL (bj (hcv _) aW))) (fun a => ?_)
 refine aj 0 6 a ?_
 refine az 6 a (ek mZ l6 rfl hga rfl hqj n (by first | exact Qac _ | rfl)) ?_
 refine aj 7 1 a ?_
 refine az 8 a (aE (km (k := 2) (j := 0) rfl rfl)) ?_
 refine aj 9 2 a ?_
 refine mp (t := 37) rfl ?_ ?_
 intro b
 refine aj 11 7 a ?_
 refine aJ ?_
 refine ac ?_
 refine aG ?_
 refine Qah Value.bool ?_
 rw [Qag]
 simp_all
 intro b
 refine aj 11 4 a ?_
 refine fD 15 rfl rfl (aB call264 (YO c q i r D f C)) (bL (bL (bj (hcv _) aW))) fun a => ?_
 refine aj 16 2 a ?_
 refine aJ ?_
 refine ac ?_
 refine aG ?_
 refine Qah Value.bool ?_
 rw [Qag]
 simp_all
 ⟩
def p7 (c : Cfg) : Bool := decide (8 < c.pl.length) || mH (qM c) c.pl.length
theorem YQ c (a : c.pl.length ≤ c.pc) (f : ∀ A, cG (aQ W0 A) c.pa 2 jr c.pl) (b : ∀ A, cG (aQ W0 A) c.ga 3 i9 c.gl) : sP W0 181 [.agg (dy c).toArray] R (fun v B => ∃ r, v = .tuple #[iQ r, .bool (p7 c)] ∧ B = R) := by
 refine am func181 ntmps181 ?_
 refine bB fun d => ?_
 refine ai (fun g => ?_) fun g => ?_
 refine ax ?_
 rw [p7, Qai (by omega), Qbv]
 exact ⟨_, ⟨0, rfl, rfl⟩, IO⟩
 refine aF rfl (ap Cq (AJ 262 [pQ d] c.pl.length d _ (qM c) (YP W0 d c (by omega) a f b) (by omega))) ?_
 rintro _ h ⟨r, rfl, e⟩
 obtain rfl := e.symm
 refine aw ?_
 refine ax ?_
 rw [p7, Qal (by omega), Qbs]
 exact ⟨_, ⟨r, rfl, rfl⟩, IO⟩
structure CfOk (W0 : World) (c : Cfg) : Prop where
  g : ∀ A, cG (aQ W0 A) c.ga 3 i9 c.gl
  r : ∀ A, cG (aQ W0 A) c.ra 3 i9 c.rl
  p : ∀ A, cG (aQ W0 A) c.pa 2 jr c.pl
  n : ∀ A, cG (aQ W0 A) c.na 2 jr c.nl
  s : ∀ A, cG (aQ W0 A) c.sa 2 jr c.sl
  pc : c.pl.length ≤ c.pc
def YR (W0 : World) (c : Cfg) (C : HP) (l : List (Value × Int × Bool)) : Prop := ∀ x ∈ l, ∃ fn cs, x.1 = .func (.func fn) #[] cs.toArray ∧ (∀ args w, (callFunc fn args).run Tryz.prog w = .ok (.enter fn args) w) ∧
  ∀ R, bF Tryz.prog W0 fn ([] ++ [.agg (dy c).toArray] ++ cs) (kH 0 C :: R) (fun v B => ∃ r, v = .tuple #[.int .i64 r, .bool x.2.2] ∧ B = kH 0 C :: R)
def ol : List (Value × Int × Bool) → Int
 | [] => 0
 | x :: t => if x.2.2 then x.2.1 else ol t
theorem Ji : ∀ (l : List (Value × Int × Bool)) (i : Nat) (b : i < l.length), (∀ j (c : j < l.length), j < i → l[j].2.2 = false) → l[i].2.2 = true → ol l = l[i].2.1
 | x :: t, 0, _, _, h => by rw [ol, Qad (by simpa using h)]; rfl
 | x :: t, i + 1, b, a, e => by
  have f := a 0 (by simp) (by omega)
  rw [ol, Qaa (by grind), Ji t i (by grind) (fun j c d => by
   have := a (j + 1) (by omega) (by omega)
   simpa using this) (by grind)]
  simp
theorem Jj : ∀ (l : List (Value × Int × Bool)), (∀ j (a : j < l.length), l[j].2.2 = false) → ol l = 0
 | [], _ => rfl
 | x :: t, h => by
  have b := h 0 (by simp)
  rw [ol, Qaa (by grind), Jj t (fun j a => by
   have := h (j + 1) (by grind)
   simpa using this)]
def w7 (x : Value × Int × Bool) : List Value := [x.1, .int .i64 x.2.1]
def iw (c : Cfg) (bg : Nat) : List (Value × Int × Bool) := [(.func (.func 179) #[] #[], 13, kI c), (.func (.func 180) #[] #[], 14, oZ c), (.func (.func 181) #[] #[], 15, p7 c), (.func (.func 182) #[] #[], 16, jE c), (.func (.func 183) #[] #[], 17, oe c), (.func (.func 178) #[] #[.pointer (some ⟨bg, 0, none⟩)], 18, mJ c)]
theorem YS W0 R bg x c : sQ W0 178 [.agg (dy c).toArray, pQ bg] (pt bg (ag [.bool x] 4) :: R) (.tuple #[iQ 0, .bool x]) (pt bg (ag [.bool x] 4) :: R) := by
 refine am func178 ntmps178 ?_
 refine bB fun b => ?_
 refine bz [bg] 3 fun a => ?_
 refine aj 0 3 a ?_
 refine aJ ?_
 exact ax ao
theorem YT x : sP W0 177 [.bool x] R (fun v B => ∃ a, v = .func (.func 178) #[] #[pQ a] ∧ B = pt a (ag [.bool x] 4) :: R) := by
 refine am func177 ntmps177 ?_
 refine dw (jO rfl rfl) fun a => ?_
 refine ac ?_
 exact ⟨_, ⟨a, rfl, rfl⟩, IO⟩
theorem YU W0 c (h : CfOk W0 c) bg : YR W0 c (cq [pt bg (ag [.bool (mJ c)] 4)]) (iw c bg) := by
 intro x a
 simp only [iw, QaO, Qcj, or_false] at a
 rcases a with rfl | rfl | rfl | rfl | rfl | rfl
 exact ⟨_, [], rfl, call179, fun R => Yh c h.g⟩
 exact ⟨_, [], rfl, call180, fun R => YN c h.r⟩
 exact ⟨_, [], rfl, call181, fun R => YQ c h.pc h.p h.g⟩
 exact ⟨_, [], rfl, call182, fun R => Ym c h.n h.g⟩
 exact ⟨_, [], rfl, call183, fun R => Yj c h.s⟩
 exact ⟨_, [pQ bg], rfl, call178, fun R => pG (gQ (YS W0 R bg (mJ c) c) fun v B b => by
  obtain ⟨rfl, rfl⟩ := b
  exact ⟨_, ⟨0, rfl, rfl⟩, inferInstance⟩)⟩
def om (c : Cfg) : Int := if c.cats < 0 ∨ 8 < c.cats then 12 else if kI c then 13 else if oZ c then 14 else if p7 c then 15 else if jE c then 16 else if oe c then 17 else if mJ c then 18 else if 32 < fZ c c.gl.length then 19 else 0
theorem YV c bg (h : ¬ (c.cats < 0 ∨ 8 < c.cats)) : om c = if ol (iw c bg) = 0 ∧ 32 < fZ c c.gl.length then 19 else ol (iw c bg) := by
 grind [om, iw, ol]
theorem Jk {w n i} (h : mH w n = false) (a : i < n) : w i = false := by
 grind [w6]
theorem w8 {c} (h : kI c = false) : 1 ≤ c.gl.length ∧ c.gl.length ≤ 4 ∧ ∀ g ∈ c.gl, gJ g.1 c.cats = true ∧ 1 ≤ g.2.1 ∧ g.2.1 ≤ 8 ∧ 0 ≤ g.2.2 ∧ g.2.2 ≤ 8 - g.2.1 := by
 simp only [kI, QcS, QcA] at h
 obtain ⟨e, b⟩ := h
 refine ⟨by omega, by omega, fun g d => ?_⟩
 obtain ⟨i, a, rfl⟩ := QbO d
 have := Jk b a
 rw [show c.gl.getD i (0, 0, 0) = c.gl[i] by simp [List.getD, a]] at this
 exact xX.1 this
theorem Jl c (h : CfOk W0 c) : sP W0 102 [.agg (dy c).toArray] R (fun v B => ∃ x, v = .tuple #[iQ (om c), iQ x] ∧ B = R) := by
 refine am func102 ntmps102 ?_
 refine eH (kg rfl) fun u => ?_
 refine au 4 ?_
 refine DD (aw ?_)
 refine dk rfl rfl rfl (fun z => ?_) fun z => ?_
 refine au 14 ?_
 refine rN (ax ?_)
 have w : om c = 12 := by grind [om]
 rw [w]
 exact ⟨_, ⟨0, rfl, rfl⟩, IO⟩
 refine aw ?_
 refine aC rfl (fun O => ?_) fun O => ?_
 refine au 8 ?_
 refine rN (ax ?_)
 have w : om c = 12 := by grind [om]
 rw [w]
 exact ⟨_, ⟨0, rfl, rfl⟩, IO⟩
 refine au 9 ?_
 refine CM (au 1 ?_)
 refine cy (fun e : Int × Int => e.1 = ol (iw c 0) ∧ ¬ (c.cats < 0 ∨ 8 < c.cats)) (fun e => [(1, pQ u), (5, iQ e.2), (6, iQ e.1)]) (fun _ => pt u (eA c) :: R) ?_ ?_
 refine au 9 ?_
 refine ah (aB call184 (Yk c)) ?_
 refine aF rfl (jm rfl call177 rfl (YT (mJ c))) ?_
 rintro _ P ⟨d, rfl, n⟩
 obtain rfl := n.symm
 refine aw ?_
 refine dw (iA a7H Nk ND rfl (fp rfl rfl (fp rfl rfl (fp rfl rfl (fp rfl rfl (fp rfl rfl (fp rfl rfl hJ)))))) rfl (by decide) (by decide) (by decide)) fun o => ?_
 refine gj (b := o) (o' := ag ((iw c d).flatMap w7) 321) rfl ?_
 refine aw ?_
 refine cW (fun i : Nat => i ≤ 6 ∧ ∀ j (H : j < (iw c d).length), j < i → ((iw c d)[j]).2.2 = false) (fun i => [(1, pQ u), (5, iQ 0), (6, iQ 0), (29, .slice (some ⟨o, 0, none⟩) 6 6), (30, iQ 6), (31, iQ i)]) (fun _ => pt o (ag ((iw c d).flatMap w7) 321) :: pt u (eA c) :: kH 0 (cq [pt d (ag [.bool (mJ c)] 4)]) :: R) (fun i => 6 - i) 0 ?_ ?_
 grind
 intro i ⟨hi, L⟩
 refine aw ?_
 refine aC rfl (fun Q => ?_) fun Q => ?_
 refine au 5 ?_
 have I : i < 6 := by omega
 have M : (iw c d).length = 6 := rfl
 have p : i < (iw c d).length := by omega
 have C := YU W0 c h d (iw c d)[i] (QaF p)
 have r := Ji (iw c d) i p L
 have D : (iw c d)[i].2.2 = false → ∀ j (H : j < (iw c d).length), j < i + 1 → ((iw c d)[j]).2.2 = false := fun q j H S => by
  rcases QaC j i with T | T
  grind
  grind
 have l : bE (aQ W0 (pt o (ag ((iw c d).flatMap w7) 321) :: pt u (eA c) :: kH 0 (cq [pt d (ag [.bool (mJ c)] 4)]) :: R)) o (i * 2) (w7 (iw c d)[i]) := by
  obtain ⟨b, U, V, W⟩ := sX (W0 := W0) (A := pt o (ag ((iw c d).flatMap w7) 321) :: pt u (eA c) :: kH 0 (cq [pt d (ag [.bool (mJ c)] 4)]) :: R) (f := w7) (sz := 2) (xs := iw c d) (b := o) (fun _ => rfl) rfl i (iw c d)[i] (by simp [p])
  cases V
  rwa [Qac] at W
 generalize hy : (iw c d)[i] = y at C r D l
 obtain ⟨yv, X, yb⟩ := y
 obtain ⟨fn, Y, rfl, s, E⟩ := C
 dsimp only at r D E
 refine aY (ae rfl (bM I) ?_)
 refine ae rfl (dj l) ?_
 refine eH (di ND) fun Z => ?_
 refine fh (gi Nk rfl rfl rfl rfl rfl) ?_
 rintro _ _ rfl
 refine aL (aH (aO (aY ?_)))
 refine ae rfl (d5 rfl Nu rfl sizeOf318 rfl (by first | exact Qac _ | rfl)) ?_
 refine ae rfl (co isAgg318 rfl (aI rfl)) ?_
 refine ae rfl (pE FX v8 rfl rfl) ?_
 refine aF rfl (ue (us := []) (cs := Y) rfl s rfl (E _)) ?_
 rintro _ P ⟨r_, rfl, n⟩
 obtain rfl := n.symm
 refine ae rfl (aM rfl) (ae rfl (lE rfl rfl) (ae rfl (lE rfl rfl) (ae rfl (bC rfl) (ae rfl (bC rfl) (aL (aH (aO (aY (ae rfl (aM rfl) (aL (aH ?_)))))))))))
 refine aC rfl (fun N => ?_) fun N => ?_
 refine aO ?_
 refine bz [Z] 5 fun F => ?_
 refine dr 0 rfl rfl rfl F (aM rfl) ?_
 refine dr 1 rfl rfl rfl F (d5 rfl Nu rfl sizeOf34 rfl (by first | exact Qac _ | rfl)) ?_
 refine dr 2 rfl rfl rfl F (co isAgg34 rfl (dq (k := 0) rfl rfl)) ?_
 refine dr 3 rfl rfl rfl F (bC rfl) ?_
 refine dr 4 rfl rfl rfl F (bC rfl) ?_
 refine aJ ?_
 exact bq (X, r_) (⟨(r N).symm, by omega⟩)
 refine aw ?_
 refine aa bW ?_
 refine bR (i + 1) ?_
 grind
 refine aw ?_
 refine bq ((0 : Int), (0 : Int)) ?_
 obtain rfl : i = 6 := by omega
 exact ⟨(Jj _ fun j H => L j H (by grind [iw])).symm, by omega⟩
 intro ⟨e, x⟩ ⟨w, G⟩
 dsimp only at w ⊢
 have m := YV c 0 G
 rw [← w] at m
 refine aw ?_
 refine iT rfl rfl rfl (fun t => ?_) fun t => ?_
 have a : ol (iw c 0) = 0 := by omega
 have J : kI c = false := by
  rw [← Qau]; intro q; simp only [iw, ol, q, QbL] at a; exact absurd a (by decide)
 have x0 : jE c = false := by
  rw [← Qau]; intro q; simp only [iw, ol, q, QbL] at a; split at a <;> (try split at a) <;> (try split at a) <;> exact absurd a (by decide)
 obtain ⟨k1, k2, k3⟩ := w8 J
 have k4 : c.nl.length ≤ 4 := by
  grind [jE]
 refine aw ?_
 refine ah (aB call69 (J3 c h.g (fun g hg => (k3 g hg).2) k4 k2)) ?_
 refine aC rfl (fun K => ?_) fun K => ?_
 refine au 8 ?_
 refine rN (ax ?_)
 rw [m, Qad (by omega)]
 exact ⟨_, ⟨0, rfl, rfl⟩, IO⟩
 refine au 11 ?_
 refine rN (ax ?_)
 rw [m, Qaa (by omega)]
 exact ⟨_, ⟨_, rfl, rfl⟩, IO⟩
 refine au 17 ?_
 refine rN (ax ?_)
 rw [m, Qaa (by omega)]
 exact ⟨_, ⟨_, rfl, rfl⟩, IO⟩
def rt (c : Cfg) : Bool := decide (om c = 0)
theorem Jm c (h : CfOk W0 c) : sQ W0 68 [.agg (dy c).toArray] R (.bool (rt c)) R := by
 refine am func68 ntmps68 ?_
 refine bB fun d => ?_
 refine aF rfl (aB call102 (Jl c h)) ?_
 rintro _ e ⟨b, rfl, a⟩
 obtain rfl := a.symm
 refine aw ?_
 refine ac ?_
 refine aG ?_
 refine Qah Value.bool ?_
 rw [Qag, rt]; simp
theorem Jn {c} (h : rt c = true) : 0 ≤ c.cats ∧ c.cats ≤ 8 ∧ kI c = false ∧ oZ c = false ∧ p7 c = false ∧ jE c = false ∧ oe c = false ∧ mJ c = false ∧ fZ c c.gl.length ≤ 32 := by
 have h := Qar h
 unfold om at h
 split at h
 omega
 rename_i i
 repeat' split at h
 all_goals first | exact absurd h (by decide) | skip
 rename_i a b d e f g j
 exact ⟨by omega, by omega, by simpa using a, by simpa using b, by simpa using d, by simpa using e, by simpa using f, by simpa using g, by omega⟩
section
variable {P : Program} {S : World → Prop} {W0 : World} {N : FSz} {e : bi} {A R : List HP} {t t' : TypeId} {x : Operand} {bs : List Nat} {a : Option Addr} {c n : Nat}
end
structure Sec where
  at_ : Int
  d : ByteArray
instance : Inhabited Sec := ⟨⟨0, ByteArray.empty⟩⟩
structure Inp where
  at_ : Int
  g : Int
  k : Int
  code : Int
  d : ByteArray
instance : Inhabited Inp := ⟨⟨0, 0, 0, 0, ByteArray.empty⟩⟩
theorem Own.step {W0 w w' A C} (h : Own W0 w A) (k : Own w w' C) : Own W0 w' (C ++ A) := by
 obtain ⟨a, j, m, c⟩ := h.owns
 obtain ⟨f, l, n, g⟩ := k.owns
 have d : ∀ p ∈ a, p.1 < w.heap.size := fun p e => by
  have := (c p e).2
  rcases QaC p.1 w.heap.size with q | q
  exact q
  grind
 refine ⟨k.os.trans h.os, k.tape.trans h.tape, k.output.trans h.output, Qba h.size k.size, fun b i => (k.base b (QcC i h.size)).trans (h.base b i), f ++ a, jx.append.2 ⟨f, a, rfl, l, j⟩, ?_, fun p e => ?_⟩
 grind
 rcases QaS.1 e with q | q
 exact ⟨Qba h.size (g p q).1, (g p q).2⟩
 exact ⟨(c p q).1, (k.base p.1 (d p q)).trans (c p q).2⟩
theorem xY {W0 W A b off vs} (a : Own W0 W A) (h : bE (aQ W0 A) b off vs) : ∀ B, bE (aQ W B) b off vs := fun B i v c => xd (h i v c W a)
theorem w9 {α W0 W A a sz f} {d : List α} (e : Own W0 W A) (h : cG (aQ W0 A) a sz f d) : ∀ B, cG (aQ W B) a sz f d := fun B i x g => by
 obtain ⟨b, c, rfl, j⟩ := h i x g
 exact ⟨b, c, rfl, xY e j B⟩
section
variable {rd : Option Nat} {P : Program} {S : World → Prop} {W0 : World} {N : FSz} {e : bi} {A B R : List HP}
variable {op : Op} {ty t K E : TypeId} {v z : Value} {b : Nat} {x y u : Operand} {f : Int → Option Value} {k : Int}
end
section
variable {P : Program} {S : World → Prop} {W0 : World} {N : FSz} {e : bi} {A R : List HP} {t t' ty : TypeId} {b off : Nat} {x y : Operand} {l l' : List Value}
theorem Jo {E k k'} (c : ∀ w, (isAgg E).run P w = .ok false w) (f : P.underlying E = some (.int k')) D w :
    ∀ (m s : Nat) (b a : List Int), b.length = s + m → a.length = s + m →
      (Op.eqItems (D + 1) E 1 (b.map (Value.int k)).toArray (a.map (Value.int k)).toArray (List.range' s m)).run P w = .ok (b.drop s == a.drop s) w
 | 0, s, b, a, g, i => by
  rw [show b.drop s = [] from List.drop_eq_nil_of_le (by omega), show a.drop s = [] from List.drop_eq_nil_of_le (by omega)]
  simp [Op.eqItems]
 | m + 1, s, b, a, g, i => by
  have j : (b.map (Value.int k))[s]? = some (.int k b[s]) := by grind
  have l : (a.map (Value.int k))[s]? = some (.int k a[s]) := by grind
  have n : b.drop s = b[s] :: b.drop (s + 1) := Qbf (by omega)
  have o : a.drop s = a[s] :: a.drop (s + 1) := Qbf (by omega)
  have p := Jo (k := k) c f D w m (s + 1) b a (by omega) (by omega)
  rw [List.range'_succ, n, o]
  simp only [Op.eqItems, Qaz, Sem.run_bind, vn c j w, vn c l w, Result.andThen_ok, run_equalIn_int w D E k k' _ _ f]
  by_cases h : b[s] = a[s]
  have d : ((a[s] :: b.drop (s + 1)) == (a[s] :: a.drop (s + 1))) = (b.drop (s + 1) == a.drop (s + 1)) := by
   rw [Qag, QaZ, QaZ]
   exact ⟨fun q => (List.cons.inj q).2, fun q => by rw [q]⟩
  rw [h, d]
  simp only [Qbz, Bool.not_true, Qaq, QcO]
  exact p
  have r : (b[s] == a[s]) = false := by simpa using h
  rw [r]
  have e : ((b[s] :: b.drop (s + 1)) == (a[s] :: a.drop (s + 1))) = false := by
   grind
  rw [e]
  simp
theorem Jp {E n z : Nat} {k k' i} {ms ns : List Int} {us vs} (a : P.underlying t = some (.array n E)) (b : P.info? E = some i) (c : P.cellsOf E = 1) (e : P.underlying E = some (.int k')) (f : ∀ w, (isAgg E).run P w = .ok false w)
    (g : us = ms.map (Value.int k)) (h : vs = ns.map (Value.int k)) (j : ms.length = n) (l : ns.length = n) : oK P (z + 2) t (.agg us.toArray) (.agg vs.toArray) (ms == ns) := fun d w => by
 subst g; subst h
 rw [show d + (z + 2) = (d + z + 1) + 1 by omega, run_equalIn_array w (d + z + 1) _ _ a b, c, List.range_eq_range', Jo f e (d + z) w n 0 ms ns (by omega) (by omega)]
 simp
theorem YW {E n j i h o' : Nat} {k k' j1 j2} (l : P.underlying t = some (.array n E)) (m : ∀ w, (sizeOf E).run P w = .ok j w) (o : ev e x = some (.pointer (some ⟨b, off, none⟩))) {lo hi} (p : ev e lo = some (.int k j1)) (q : ev e hi = some (.int k' j2)) (r : j1 = i) (s : j2 = h) (c : i ≤ h) (d : h ≤ n) (u : i < n) (v : off + i * j = o') :
    bT P S N e (.slice t x (some lo) (some hi) none) (.slice (some ⟨b, o', none⟩) (h - i) (n - i)) := fun a w _ _ _ _ _ f _ => by
 subst r; subst s; subst v
 have g : ¬ n = i := by omega
 simp [execOp, Instr.sliceAt, f.eval o, f.eval p, f.eval q, eW l, Instr.sureAddr, Instr.sliceBounds, rH d, rH c, m, g, jy]
theorem YX {E n m c : Nat} {a} (b : P.underlying t = some (.array n E)) (d : ev e x = some (.slice a m c)) (f : ¬ m < n) : bT P S N e (.sliceToArrayPointer t x) (.pointer a) := fun g w _ _ _ _ _ h _ => by
 simp [execOp, h.eval d, Instr.arrayAt, eW b, f]
theorem YY {S b off n j l vs} (h : bE S b off l) (c : (l.drop j).take n = vs) : bE S b (off + j) vs := fun i v a => by
 subst c
 rw [List.getElem?_take] at a
 split at a
 rw [Qcl] at a
 rw [QbY]
 exact h (j + i) v a
 cases a
end
section
variable {W0 : World} {N : FSz} {K : Act → World → Prop} {e : bi} {A R R1 R2 : List HP} {b n c : Nat} {l : List Dsc} {a : Option Addr} {ys : List Value}
end
structure QS where
  r : Rg3
  on : Bool
  br : Int
  last : Nat
  put : Nat
@[reducible] def du : QS := ⟨⟨0, 0, 0, 0⟩, false, 0, 0, 0⟩
abbrev qO (m : Bool) (s : QS) : Obj := ag [.int .u32 s.r.desc, .int .u32 s.r.avail, .int .u32 s.r.used, .int .i64 s.r.n, .bool s.on, .int .i64 s.br, .int .i64 s.last, .int .i64 s.put, .bool m] 190
theorem YZ : sP W0 166 [] R (fun v B => ∃ b, v = pQ b ∧ B = pt b (qO true du) :: R) := by
 refine am func166 ntmps166 ?_
 refine bB fun a => ?_
 refine ac ?_
 exact ⟨_, ⟨_, rfl, rfl⟩, IO⟩
section
variable {P : Program} {S : World → Prop} {W0 : World} {N : FSz} {e : bi} {A R : List HP} {t t' : TypeId} {x : Operand} {v : Value} {b : Nat} {vs : List Value}
end
structure Dk where
  rs : List Rn
  lb : List Int
  ss : List (List Nat)
section
variable {W0 : World} {N : FSz} {K : Act → World → Prop} {e : bi} {A B R R1 R2 R3 R4 : List HP} {d : Nat} {x : Dk}
end
section
variable {P : Program} {S : World → Prop} {W0 : World} {N : FSz} {e : bi} {A R : List HP} {ty t t' : TypeId} {x y : Operand} {b off : Nat} {l l' vs : List Value}
theorem Z0 {E f z M C O m : Nat} {ay} (D : P.underlying t = some (.slice E)) (F : ∀ w, (sizeOf E).run P w = .ok f w) (G : ev e x = some (.slice (some ⟨b, off, none⟩) z M)) (H : ev e y = some (.slice ay C O))
    [h : Tk pt b A (ag l ty) R] (I : Nat.min C z = m) (d : m = 0 ∨ ∃ i j, ay = some ⟨i, j, none⟩ ∧ bE (aQ W0 A) i j vs) (S : vs.length = m * f) (T : fi vs = true) (U : off + m * f ≤ l.length) (J : d7 l off vs = l') :
    cY P W0 N e A (.call { callee := .builtin .copy, args := #[x, y], argTypes := #[t, t'] }) (fun v B => v = iQ m ∧ B = pt b (ag l' ty) :: R) := by
 rcases d with rfl | ⟨i, j, rfl, V⟩
 have W : vs = [] := QaE (by omega)
 subst W
 have n : l = l' := J
 subst n
 intro a w o p q X g K Q L Y k
 have s := Y.tk (r := pt) (b := b)
 have c : (execOp a.eval { dst := o, op := .call { callee := .builtin .copy, args := #[x, y], argTypes := #[t, t'] }, type := p, pos := q, after := X, guard := g }).run P w = .ok (.value (iQ 0)) w := by
  have u : (sizeOf E).run P w = .ok f w := F w
  cases ay <;>
  simp only [execOp, resolve, invoke, builtin, Sem.run_bind, Sem.run_pure, Result.andThen_ok, Qcy, QaM, Qcg, L.eval G, L.eval H, Builtin.copy_, Builtin.lenOf, Builtin.firstCells, eW D, I, Qcm, QbT, QbH, List.getElem?_cons_succ, u, loadCells, loadCellsFrom, Nat.zero_mul, storeCells, goInt] <;> rfl
 unfold Oper.wp
 rw [c]
 exact k _ w _ ⟨rfl, rfl⟩ s
 exact vD D F G H I V S T U J
end
theorem Z1 (l : List Nat) : (l.flatMap fun x => [wV x]) = l.map wV := by
 induction l with
 | nil => rfl
 | cons x l a => rw [Qbc, a]; rfl
@[reducible] def iJ (x : Nat) : List Value := [wV x]
theorem Eh x : (iJ x).length = 1 := rfl
theorem Ei (l : List Nat) : l.flatMap iJ = l.map wV := II wV l
def bA (ws : List Nat) (p : Nat) : List Nat := ws.take (16 * p)
theorem wa ws p : (bA ws p).length = min (16 * p) ws.length := by rw [bA, QaQ]
theorem Ej (a b : Nat) : (if b < (a : Int) then (b : Int) else a) = (min a b : Nat) := by
 omega
theorem Jq {p : Nat} (h : p ≤ 8) : (if 8 < (p : Int) then 8 else (p : Int)) = p := by rw [Qaa (by omega)]
theorem Z2 (a : Nat) : (if a > (0 : Int) then (a : Int) else 0) = a := by
 omega
theorem Jr a (c p : Nat) ws (i : cG (aQ W0 R) a 1 iJ ws) (j : p ≤ 8) (q : ws.length < 9223372036854775808) : sP W0 104 [.slice a ws.length c, iQ p] R (fun v B => ∃ g, v = .slice (some ⟨g, 0, none⟩) (bA ws p).length (bA ws p).length ∧ B = pt g (ag ((bA ws p).map wV) 38) :: R) := by
 have r := wa ws p
 have d := (i.take (16 * p)).src Eh (fun _ => trivial)
 rw [Ei] at d
 refine am func104 ntmps104 ?_
 refine aa (uh rfl rfl (Jq j)) ?_
 refine aa (xT rfl rfl (Z2 p)) ?_
 refine jS 3 (lc (16 * p)) ?_
 refine cy (fun m : Nat => m = (bA ws p).length) (fun m => [(0, .slice a ws.length c), (5, iQ m)]) (fun _ => R) ?_ ?_
 refine au 8 ?_
 refine ai (fun k => ?_) fun k => ?_
 exact bq ws.length (by omega)
 exact bq (16 * p) (by omega)
 intro m e
 refine aw ?_
 refine dw (vC (sz := 1) (by_ := 4) (info := Tryz.t38) tQ (by kernel_rfl) rfl rfl rfl rfl (by decide) rfl rfl rfl rfl (by omega) (by decide)) fun g => ?_
 refine aF rfl (Z0 tQ aX rfl rfl (m := m) (vs := (bA ws p).map wV) (Nat.min_eq_right (by omega)) (by
       rcases d with h | ⟨b, o, l, n⟩
       · left; rw [e, bA, h]; rfl
       right; exact ⟨b, o, l, n.weak⟩) (by rw [Qay, e]; omega) (by simp [fi, wV, Value.oneCell']) (by rw [QbC]; omega) (by have := zN ((bA ws p).map wV) (List.replicate (m * 1) (.int .u32 0)) [] (by rw [Qay, QbC, e]; omega); simpa using this)) ?_
 rintro _ s ⟨rfl, f⟩
 obtain rfl := f.symm
 refine aw ?_
 refine ac ?_
 subst e
 exact ⟨_, ⟨g, rfl, rfl⟩, IO⟩
def m9 (n i : Nat) : Nat := min n (i * 16)
theorem Js ws i : (e9 ws i).length = min ws.length (m9 ws.length i + 16) - m9 ws.length i := by
 rw [e9, QaQ, QcV, m9]; omega
theorem Z3 a (c n i : Nat) ws (hn : ws.length = n) (hc : n ≤ c) (hi : i < 8) (h63 : n ≤ 1000) : sQ W0 160 [.slice a n c, iQ i] R (.slice (m7 a c (m9 n i) 1) (e9 ws i).length (c - m9 n i)) R := by
 have b := Js ws i
 rw [hn] at b
 have d : m9 n i = min n (i * 16) := rfl
 refine am func160 ntmps160 ?_
 refine aa (lc (i * 16)) ?_
 refine aa (uh rfl rfl (Ej n (i * 16))) ?_
 refine aa (dQ (m9 n i + 16)) ?_
 refine aa (uh rfl rfl (Ej n (m9 n i + 16))) ?_
 refine aa (XN tQ aX rfl rfl rfl rfl rfl (by omega) (by omega)) ?_
 refine ac ?_
 rw [b]
 exact ao
theorem Z4 {S a c i ws} (h : cG S a 1 iJ ws) (b : ws.length ≤ c) : cG S (m7 a c (m9 ws.length i) 1) 1 iJ (e9 ws i) := by
 have d : m9 ws.length i + (e9 ws i).length ≤ ws.length := by
  grind [Js, m9]
 have := h.sub d b
 have e : (ws.drop (m9 ws.length i)).take (e9 ws i).length = e9 ws i := by
  have f : m9 ws.length i = min ws.length (i * 16) := rfl
  rcases QaC ws.length (i * 16) with q | q
  grind [e9, List.drop_of_length_le]
  grind [m9, e9]
 rwa [e] at this
theorem Z5 pb ps po (b : 0 < po.length) : sQ W0 38 [pQ pb, iQ (-1), iQ 0] (cR pb (ps, po) :: R) (iQ 1) (cR pb (ps, po) :: R) := by
 have c : eu po.length (-1) = false := by simp [eu]
 refine am func38 ntmps38 ?_
 refine ah (ap zv (w5 pb ps po b)) ?_
 refine ah (ap NQ (E9 pb ps po (-1))) ?_
 refine ai (fun a => ?_) fun a => ?_
 exact ac ao
 exact absurd (by simp [c]) a
theorem Z6 b pg (h : Pgs pg) : sQ W0 122 [pQ b, iQ (-1)] (pt b (bI pg) :: R) (iQ 1) (pt b (bI pg) :: R) := by
 refine am NI ntmps122 ?_
 refine ah (ap zt (vO b pg h)) ?_
 refine ah (aB Cl (xu (-1))) ?_
 refine ai (fun a => ?_) fun a => ?_
 exact ac ao
 exact absurd a (by decide)
theorem Z7 pb ps pm x (h : ImOk x) (c : 0 < x.fr.length) : sQ W0 241 [pQ pb, pQ ps, pQ pm] (cR pb (ps, x.po) :: bD ps x.fr :: pt pm (bI x.pg) :: R) (.bool true) (cR pb (ps, x.po) :: bD ps x.fr :: pt pm (bI x.pg) :: R) := by
 have d := h.len
 refine am func241 ntmps241 ?_
 refine ah (ap call38 (Z5 pb ps x.po (by omega))) ?_
 refine bN (fun a => ?_) fun a => ?_
 refine ah (ap wT (uk ps x.fr)) ?_
 refine iT rfl rfl rfl (fun b => ?_) fun b => ?_
 refine au 2 ?_
 refine ah (ap Gl (Z6 pm x.pg h.pg)) ?_
 exact ac ao
 omega
 exact absurd (by decide) a
theorem Z8 pm pg (h : Pgs pg) n (d : n ≤ 8) (b : qE pg 0 n) : sQ W0 242 [pQ pm, iQ n] (pt pm (bI pg) :: R) (.bool true) (pt pm (bI pg) :: R) := by
 refine am func242 ntmps242 ?_
 refine cW (fun i : Nat => i ≤ n) (fun i => [(0, pQ pm), (8, iQ n), (9, iQ i)]) (fun _ => pt pm (bI pg) :: R) (fun i => n - i) 0 ?_ ?_
 omega
 intro i e
 refine aw ?_
 refine ai (fun c => ?_) fun c => ?_
 refine ah (ap nS (sZ pm pg h i)) ?_
 refine bu fun f => ?_
 refine ar aA ?_
 refine ai (fun a => ?_) fun a => ?_
 exact absurd a (by rw [b i (QaG _) (by omega)]; decide)
 refine aa bW ?_
 exact bR (i + 1) (by omega)
 exact ac ao
theorem Z9 pb ps pm who n x (h : ImOk x) (b : 0 < x.fr.length) (c : who < 16) (l : 1 ≤ n) (d : n ≤ 8) (e : qE x.pg 0 n) (m : n ≤ (bS x.po who).length) : sQ W0 158 [pQ pb, pQ ps, pQ pm, iQ who, iQ n] (cR pb (ps, x.po) :: bD ps x.fr :: pt pm (bI x.pg) :: R) (iQ 0) (cR pb (ps, x.po) :: bD ps x.fr :: pt pm (bI x.pg) :: R) := by
 have f := h.len
 refine am func158 ntmps158 ?_
 refine eh 4 (cN call241 (Z7 pb ps pm x h b)) ?_
 refine jT ?_
 refine aC rfl (fun g => ?_) fun g => ?_
 omega
 refine aw ?_
 refine aC rfl (fun i => ?_) fun i => ?_
 omega
 refine aw ?_
 refine aC rfl (fun j => ?_) fun j => ?_
 omega
 refine aw ?_
 refine aC rfl (fun k => ?_) fun k => ?_
 omega
 refine aw ?_
 refine eh 4 (ap call242 (Z8 pm x.pg h.pg n d e)) ?_
 refine jT ?_
 refine eh 5 (ap call243 (Yd pb ps x.po who (by omega) c)) ?_
 refine aC rfl (fun a => ?_) fun a => ?_
 omega
 refine aw ?_
 exact ac ao
theorem Jt {pg} {i f : Nat} (a : i < 8) (b : f < 32) (c : aN pg i = false) : fW pg i (f, 3) = 0 := by
 grind [fW, jo, ll]
theorem Za b6 b9 b14 b7 b8 g pb ps pm a i f l x (h : ImOk x) ws (v : a < 16) (t : i < 8) (n : bS x.po a = f :: l) (w : aN x.pg (i : Nat) = false) (z : ∀ y ∈ ws, y < 4294967296) (E : ws.length ≤ 128) : sQ W0 159 ([] ++ [iQ i] ++ [pQ b6, pQ b9, pQ b14, pQ b7, pQ b8]) (pt b6 (ag [pQ pb] 104) :: pt b9 (ag [iQ a] 3) :: pt b14 (ag [.slice (some ⟨g, 0, none⟩) ws.length ws.length] 22) :: pt b7 (ag [pQ ps] 98) :: pt b8 (ag [pQ pm] 55) :: pt g (ag (ws.map wV) 38) :: cR pb (ps, x.po) :: bD ps x.fr :: pt pm (bI x.pg) :: R) (iQ 0) (pt b6 (ag [pQ pb] 104) :: pt b9 (ag [iQ a] 3) :: pt b14 (ag [.slice (some ⟨g, 0, none⟩) ws.length ws.length] 22) :: pt b7 (ag [pQ ps] 98) :: pt b8 (ag [pQ pm] 55) :: pt g (ag (ws.map wV) 38) :: cR pb (ps, (jD a ws x i).po) :: bD ps (jD a ws x i).fr :: pt pm (bI (jD a ws x i).pg) :: R) := by
 have F := kQ.1 (show f ∈ bS x.po a by rw [n]; simp)
 have A := h.po.len
 have o : jD a ws x i = ⟨iX f (e9 ws i) 0 x.fr, x.po.set f ((a : Int), true), dL x.pg i ((f : Int), 3)⟩ := by rw [jD, n]
 rw [o]
 have d : ∀ y ∈ e9 ws i, y < 4294967296 := fun y m => z y (List.mem_of_mem_drop (QbJ m))
 have p : (e9 ws i).length ≤ 16 := by grind [e9]
 simp only [Qaw, Qax]
 refine am func159 ntmps159 ?_
 refine eh 14 (ap call117 (IZ pb ps x.po a f l v h.po n)) ?_
 refine jT ?_
 refine eh 5 (aB call160 (Z3 (some ⟨g, 0, none⟩) ws.length ws.length i ws rfl (Qam _) t (by omega))) ?_
 refine ge (fun k : Nat => k ≤ (e9 ws i).length) (fun k => [(0, iQ i), (4, pQ b7), (5, pQ b8), (8, iQ f), (23, .slice (m7 (some ⟨g, 0, none⟩) ws.length (m9 ws.length i) 1) (e9 ws i).length (ws.length - m9 ws.length i)), (24, iQ (e9 ws i).length), (25, iQ k)]) (fun k => pt b6 (ag [pQ pb] 104) :: pt b9 (ag [iQ a] 3) :: pt b14 (ag [.slice (some ⟨g, 0, none⟩) ws.length ws.length] 22) :: pt b7 (ag [pQ ps] 98) :: pt b8 (ag [pQ pm] 55) :: pt g (ag (ws.map wV) 38) :: cR pb (ps, x.po.set f ((a : Int), true)) :: bD ps (iX f ((e9 ws i).take k) 0 x.fr) :: pt pm (bI x.pg) :: R) (fun k => (e9 ws i).length - k) 0 ?_ ?_ ?_ ?_
 omega
 · repeat (first | exact bK | refine aZ rfl ?_)
 rw [show iX f ((e9 ws i).take 0) 0 x.fr = x.fr from rfl]
 exact IO
 intro k G
 refine aw ?_
 refine ai (fun B => ?_) fun B => ?_
 have c : k < (e9 ws i).length := by omega
 have q : cG (aQ W0 (pt b6 (ag [pQ pb] 104) :: pt b9 (ag [iQ a] 3) :: pt b14 (ag [.slice (some ⟨g, 0, none⟩) ws.length ws.length] 22) :: pt b7 (ag [pQ ps] 98) :: pt b8 (ag [pQ pm] 55) :: pt g (ag (ws.map wV) 38) :: cR pb (ps, x.po.set f ((a : Int), true)) :: bD ps (iX f ((e9 ws i).take k) 0 x.fr) :: pt pm (bI x.pg) :: R)) (some ⟨g, 0, none⟩) 1 iJ ws := sX (b := g) Eh (Ei ws).symm
 obtain ⟨H, I, r, u⟩ := (Z4 (i := i) q (Qam _)).at_ c
 obtain ⟨y, m⟩ : ∃ y, (e9 ws i)[k] = y := ⟨_, rfl⟩
 rw [m] at u
 have e := d _ (QaF c)
 rw [m] at e
 have s : (e9 ws i).take (k + 1) = (e9 ws i).take k ++ [y] := by grind [Qao]
 obtain ⟨C, D⟩ := uw (f := f) (l := (e9 ws i).take k) (k := 0) h.fr
 have j := E2 f y ((e9 ws i).take k) 0 x.fr
 rw [← s, QaQ, Qbm (by omega), Qac] at j
 refine aa (ek tQ aX rfl r rfl rfl c (by first | exact Qac _ | rfl)) ?_
 refine aa (aE (u 0 _ rfl)) ?_
 refine aa (lc (4 * k)) ?_
 refine ah (ap NJ (Dm ps (iX f ((e9 ws i).take k) 0 x.fr) f (4 * k : Nat) 4 y e C)) ?_
 refine aa bW ?_
 refine bR (k + 1) ?_ (he := ?_)
 omega
 rw [j]
 exact IO
 obtain rfl : k = (e9 ws i).length := by omega
 rw [QaU (Qam _)]
 refine ah (ap NS (Do pm x.pg h.pg i ((f : Int), 3))) ?_
 refine ac ?_
 rw [Jt t (by omega) w]
 exact ao
theorem Ju pb ps pm who n x (h : ImOk x) (B : 0 < x.fr.length) a c ws (q : who < 16) (C : 1 ≤ n) (u : n ≤ 8) (v : qE x.pg 0 8) (D : n ≤ (bS x.po who).length) (E : ∀ A, Ent A R → cG (aQ W0 A) a 1 iJ ws) (F : ∀ y ∈ ws, y < 4294967296) (G : ws.length < 9223372036854775808) : sQ W0 76 [pQ pb, pQ ps, pQ pm, iQ who, iQ n, .slice a ws.length c] (cR pb (ps, x.po) :: bD ps x.fr :: pt pm (bI x.pg) :: R) (iQ 0) (cR pb (ps, (cI who (bA ws n) n x).po) :: bD ps (cI who (bA ws n) n x).fr :: pt pm (bI (cI who (bA ws n) n x).pg) :: R) := by
 have w := wa ws n
 have r : ∀ y ∈ bA ws n, y < 4294967296 := fun y H => F y (QbJ H)
 have d : ∀ i, ImOk (cI who (bA ws n) i x) := fun i => ux q h
 have I : ∀ i, (cI who (bA ws n) i x).fr.length = x.fr.length := fun i => by
  induction i with
  | zero => rfl
  | succ i z =>
   rw [cI, jD]
   split
   rw [(uw (d i).fr).2]; exact z
   exact z
 refine am func76 ntmps76 ?_
 refine dw (jO rfl rfl) fun k => ?_
 refine dw (jO rfl rfl) fun m => ?_
 refine dw (jO rfl rfl) fun o => ?_
 refine dw (jO rfl rfl) fun p => ?_
 refine eh 9 (cN call158 (Z9 pb ps pm who n x h B q C u (fun i J N => v i J (by omega)) D)) ?_
 refine jT ?_
 refine aF rfl (aB call104 (Jr a c n ws (E _ inferInstance) u G)) ?_
 rintro _ O ⟨g, rfl, s⟩
 obtain rfl := s.symm
 refine dw (rD zeroValue22 rfl) fun b => ?_
 refine ar dX ?_
 refine ge (fun i : Nat => i ≤ n) (fun i => [(15, .func (.func 159) #[] #[pQ k, pQ p, pQ b, pQ m, pQ o]), (31, iQ n), (32, iQ i)]) (fun i => pt k (ag [pQ pb] 104) :: pt p (ag [iQ who] 3) :: pt b (ag [.slice (some ⟨g, 0, none⟩) (bA ws n).length (bA ws n).length] 22) :: pt m (ag [pQ ps] 98) :: pt o (ag [pQ pm] 55) :: pt g (ag ((bA ws n).map wV) 38) :: cR pb (ps, (cI who (bA ws n) i x).po) :: bD ps (cI who (bA ws n) i x).fr :: pt pm (bI (cI who (bA ws n) i x).pg) :: R) (fun i => n - i) 0 ?_ ?_ ?_ ?_
 omega
 · repeat (first | exact bK | refine aZ rfl ?_)
 rw [show cI who (bA ws n) 0 x = x from rfl]
 exact IO
 intro i P
 refine aw ?_
 refine ai (fun K => ?_) fun K => ?_
 have L : i < n := by omega
 have j := Ax (who := who) (words := bA ws n) (x := x) i
 have t := (Ay (who := who) (words := bA ws n) v h.pg.len i (by omega)).1
 obtain ⟨f, l, M⟩ : ∃ f l, bS (cI who (bA ws n) i x).po who = f :: l := by
  cases e : bS (cI who (bA ws n) i x).po who with
  | nil => rw [e] at j; simp at j; omega
  | cons f l => exact ⟨f, l, rfl⟩
 refine eh 9 (jm (us := []) (cs := [pQ k, pQ p, pQ b, pQ m, pQ o]) rfl call159 rfl (Za k p b m o g pb ps pm who i f l (cI who (bA ws n) i x) (d i) (bA ws n) q (by omega) M (t i (Qam _) (by omega)) r (by omega))) ?_
 refine jT ?_
 refine jS 3 bW ?_
 exact bR (i + 1) (by omega)
 refine ac ?_
 obtain rfl : i = n := by omega
 exact ao
@[reducible] def js (x : Int × Bool) : List Value := [.int .i64 x.1]
@[reducible] def jZ (x : Int × Bool) : List Value := [.bool x.2]
def dC (pb : Nat) (x : Nat × Po) : HP := chk (fun C => ∃ a c a2 c2, C = [pt pb (ag [.pointer (some ⟨x.1, 0, none⟩), .slice a x.2.length c, .slice a2 x.2.length c2] 207), osl 3 1 (.slice a x.2.length c) (x.2.flatMap js), osl 4 1 (.slice a2 x.2.length c2) (x.2.flatMap jZ)])
section
variable {P : Program} {W0 : World} {N : FSz} {K : Act → World → Prop} {e : bi} {A B R R1 R2 R3 : List HP} {pb ps n : Nat} {po : Po} {f : FuncId} {args : List Value} {Post : Value → List HP → Prop}
theorem AP (a : Po) : (a.flatMap js).length = a.length := by rw [cF (k := 1) (fun _ => rfl)]; omega
theorem wc (a : Po) : (a.flatMap jZ).length = a.length := by rw [cF (k := 1) (fun _ => rfl)]; omega
theorem Jv [i : Tk dC pb A (ps, po) R] (h : ∀ a c d f, av W0 N K e (pt pb (ag [pQ ps, .slice a po.length c, .slice d po.length f] 207) :: osl 3 1 (.slice a po.length c) (po.flatMap js) :: osl 4 1 (.slice d po.length f) (po.flatMap jZ) :: R)) : av W0 N K e A :=
  fV (r := dC) (b := pb) (ni fun C g => by obtain ⟨a, c, d, f, rfl⟩ := g; exact h a c d f)
theorem Jw {a a2 c c2 n2 xs ys} [d : Tk pt pb A (ag [pQ ps, .slice a n c, .slice a2 n2 c2] 207) R1] [e : Tk (osl 3 1) (.slice a n c) R1 xs R2] [f : Tk (osl 4 1) (.slice a2 n2 c2) R2 ys R3]
    (g : n = po.length) (b : n2 = po.length) (h : xs = po.flatMap js) (i : ys = po.flatMap jZ) [k : Ent R3 B] : Ent A (dC pb (ps, po) :: B) := by
 subst g; subst b; subst h; subst i
 exact (Ent.ofPerm (d.perm.trans ((e.perm.trans (f.perm.cons _)).cons _))).trans ((Ent.cons (Ent.cons (Ent.cons k))).trans (fK (R := B) (C := [_, _, _]) ⟨a, c, a2, c2, rfl⟩))
theorem xZ [x : Tk dC pb A (ps, po) R] (y : 0 < po.length) (h : ∀ g c j f k d, po.length ≤ c → c ≤ maxLen → (po.flatMap js ++ k).length = c * 1 → po.length ≤ f → f ≤ maxLen → (po.flatMap jZ ++ d).length = f * 1 →
    av W0 N K e (pt pb (ag [pQ ps, .slice (some ⟨g, 0, none⟩) po.length c, .slice (some ⟨j, 0, none⟩) po.length f] 207) :: pt g (ag (po.flatMap js ++ k) 3) :: pt j (ag (po.flatMap jZ ++ d) 4) :: R)) : av W0 N K e A := by
 refine Jv (pb := pb) fun a c o f => ?_
 refine fV (r := osl 3 1) (b := .slice a po.length c) ?_
 refine ku (fun l i => by have := Qah List.length i; rw [AP, Qbr] at this; omega) fun g n p k l i q z s => ?_
 cases l
 refine fV (r := osl 4 1) (b := .slice o po.length f) ?_
 refine ku (fun l i => by have := Qah List.length i; rw [wc, Qbr] at this; omega) fun j B m d t u v C w => ?_
 cases t
 exact eK inferInstance (h g c j f k d i q s u v w)
theorem mM {g g2 c c2 n2 xs ys sp sp2} [b : Tk pt pb A (ag [pQ ps, .slice (some ⟨g, 0, none⟩) n c, .slice (some ⟨g2, 0, none⟩) n2 c2] 207) R1] [r : Tk pt g R1 (ag (xs ++ sp) 3) R2] [s : Tk pt g2 R2 (ag (ys ++ sp2) 4) R3]
    (d : n = po.length) (a : n2 = po.length) (e : xs = po.flatMap js) (f : ys = po.flatMap jZ) (h : n ≤ c) (i : c ≤ maxLen) (j : (xs ++ sp).length = c * 1) (l : n2 ≤ c2) (m : c2 ≤ maxLen) (o : (ys ++ sp2).length = c2 * 1) [k : Ent R3 B] : Ent A (dC pb (ps, po) :: B) := by
 have p : Ent R2 (osl 4 1 (.slice (some ⟨g2, 0, none⟩) n2 c2) ys :: B) := fk l m (by grind [wc]) o
 have q : Ent R1 (osl 3 1 (.slice (some ⟨g, 0, none⟩) n c) xs :: osl 4 1 (.slice (some ⟨g2, 0, none⟩) n2 c2) ys :: B) := fk (k := p) h i (by grind [AP]) j
 refine (Ent.ofPerm b.perm).trans ((Ent.cons q).trans ?_)
 exact Jw d a e f
end
theorem y3 {po sp i} (a : i < po.length) : (po.flatMap js ++ sp)[i * 1]? = some (iQ (d6 po i).1) := by
 have := mq (f := js) (k := 1) (fun _ => rfl) po i 0 sp a (by decide)
 rw [QbM] at this
 rw [this]; simp [js, d6, List.getD, a]
theorem y5 {po} {sp : List Value} {i} (a : i < po.length) : (po.flatMap jZ ++ sp)[i * 1]? = some (.bool (d6 po i).2) := by
 have := mq (f := jZ) (k := 1) (fun _ => rfl) po i 0 sp a (by decide)
 rw [QbM] at this
 rw [this]; simp [jZ, d6, List.getD, a]
theorem Jx {po : Po} {sp i v t} (a : i < po.length) : (po.flatMap js ++ sp).set (i * 1) (iQ v) = (po.set i (v, t)).flatMap js ++ sp := by
 have := qj (f := js) (k := 1) (fun _ => rfl) po i 0 (iQ v) (v, t) sp a (by decide) (by simp [js])
 rwa [QbM] at this
theorem Ek {po : Po} {sp i v t} (a : i < po.length) : (po.flatMap jZ ++ sp).set (i * 1) (.bool t) = (po.set i (v, t)).flatMap jZ ++ sp := by
 have := qj (f := jZ) (k := 1) (fun _ => rfl) po i 0 (.bool t) (v, t) sp a (by decide) (by simp [jZ])
 rwa [QbM] at this
theorem Jy {po : Po} {i t} (a : i < po.length) : (po.set i ((d6 po i).1, t)).flatMap js = po.flatMap js := by
 have h := Jx (po := po) (sp := []) (i := i) (v := (d6 po i).1) (t := t) a
 rw [Qav, Qav, Qaz] at h
 rw [← h]
 refine AB ?_
 have := y3 (po := po) (sp := []) a
 rwa [Qav, Qaz] at this
theorem Zb {a : Po} {i v} (b : i < a.length) : (a.set i (v, (d6 a i).2)).flatMap jZ = a.flatMap jZ := by
 have h := Ek (po := a) (sp := []) (i := i) (v := v) (t := (d6 a i).2) b
 rw [Qav, Qav, Qaz] at h
 rw [← h]
 refine AB ?_
 have := y5 (po := a) (sp := []) b
 rwa [Qav, Qaz] at this
theorem Jz qs fr (f : Nat) (hf : f < fr.length) : sQ W0 101 [pQ qs, iQ f] (cH qs fr :: R) (iQ 0) (cH qs (fr.set f cC) :: R) := by
 have i : eu fr.length f = true := by grind [eu]
 refine am func101 ntmps101 ?_
 refine ah (ap su (qy qs fr f)) ?_
 refine aC rfl (fun e => ?_) fun e => ?_
 exact absurd e (by simp [i])
 refine au 3 ?_
 refine Af (qs := qs) hf fun a c j p k l => ?_
 refine t2 (E := 80) (sz := 1) (v := .slice a fr.length c) (fun d h => by have := (Value.slice.inj d).2.1; omega) fun g n q r d h m s t => ?_
 cases d
 refine bz [qs] 8 fun b => ?_
 refine aj 0 5 b ?_
 refine bQ 5 (vC (sz := 1) (by_ := 1) (info := Tryz.t5) nf (by kernel_rfl) rfl rfl rfl rfl (by decide) rfl rfl rfl rfl (by decide) (by decide)) ?_; clear b
 rintro _ _ ⟨o, rfl, rfl⟩
 refine ⟨aT, fun b => ?_⟩
 refine az 6 b (bM hf) ?_
 refine cm 7 (dt (by omega) (by rw [Qaz, Qca _ _ (by omega)])) fun b => ?_
 refine aJ ?_
 refine ac ?_
 exact ⟨_, ⟨rfl, rfl⟩, Ag (vs := j) (vi := .slice (some ⟨o, 0, none⟩) 64 64) (y := cC) (sp2 := []) rfl rfl rfl k rfl hf h m (by grind) (by decide) (by decide) rfl rfl⟩
theorem Zc n : (List.replicate n ((-1), false)).flatMap js ++ [[Value.int .i64 (-1)]].flatten = (List.replicate (n + 1) ((-1), false)).flatMap js := by
 grind [QbK]
theorem Zd n : (List.replicate n ((-1), false)).flatMap jZ ++ [[Value.bool false]].flatten = (List.replicate (n + 1) ((-1), false)).flatMap jZ := by
 grind [QbK]
section
variable {A B R R2 : List HP} {qs n c : Nat} {a : Option Addr} {fr : List aD} {vs : List Value}
theorem JA {x} (b : vs.length = fr.length) : Ent (pt qs (ag [.slice a fr.length c] 196) :: osl 80 1 (.slice a fr.length c) vs :: ((vs.zip fr).map gF ++ (x :: R))) (cH qs fr :: x :: R) := um (vs := vs) b rfl
theorem Ze {x} (b : vs.length = fr.length) : Ent (pt qs (ag [.slice a fr.length c] 196) :: osl 80 1 (.slice a fr.length c) vs :: ((vs.zip fr).map gF ++ (x :: R))) (x :: cH qs fr :: R) := (JA b).trans (Ent.ofPerm (List.Perm.swap _ _ _))
end
theorem Zf {B pb ps} : Ent (pt pb (ag [pQ ps, ej, ej] 207) :: B) (dC pb (ps, []) :: B) :=
  (Ent.cons (fm (E := 3) (sz := 1) (k := fm (E := 4) (sz := 1) (A := B) (B := B)))).trans (fK (R := B) (C := [_, _, _]) ⟨none, 0, none, 0, rfl⟩)
theorem Zg qs fr (k : 0 < fr.length) (g : fr.length ≤ 32) : sP W0 36 [pQ qs] (cH qs fr :: R) (fun v B => ∃ b, v = .tuple #[pQ b, iQ 0] ∧ B = dC b (qs, List.replicate fr.length (-1, false)) :: cH qs fr :: R) := by
 refine am func36 ntmps36 ?_
 refine vQ (qs := qs) fun a c f e => ?_
 refine aw ?_
 refine dk rfl rfl rfl (fun d => ?_) fun d => ?_
 cases d
 refine aw ?_
 refine aC rfl (fun h => ?_) fun h => ?_
 omega
 refine aw ?_
 refine bB fun b => ?_
 refine ge (fun X : Nat => X ≤ fr.length) (fun X => [(0, pQ qs), (4, pQ b), (5, iQ X)]) (fun X => dC b (qs, List.replicate X (-1, false)) :: cH qs fr :: R) (fun X => fr.length - X) 0 ?_ ?_ ?_ ?_
 omega
 · repeat (first | exact bK | refine aZ rfl ?_)
 exact (Ent.cons (um (vs := f) e rfl)).trans Zf
 intro i l
 refine aw ?_
 refine vQ (qs := qs) fun a c f e => ?_
 refine aw ?_
 refine ai (fun j => ?_) fun j => ?_
 refine eK (B := cH qs fr :: dC b (qs, List.replicate i (-1, false)) :: R) (JA e) ?_
 refine Jv (pb := b) fun a c m n => ?_
 refine aw ?_
 refine dw (jP eJ aS ml rfl rfl rfl rfl rfl (by decide) (by decide)) fun o => ?_
 refine aF rfl (eE (sz := 1) (by_ := 8) (info := Tryz.t3) eJ (by kernel_rfl) rfl rfl rfl rfl (by decide) rfl rfl en rfl rfl (by simp only [maxLen, QbC]; omega) (by grind)) ?_
 rintro _ _ ⟨p, q, rfl, rfl⟩
 refine aw ?_
 refine ar dX ?_
 refine dw (jP Nq iN NM rfl rfl rfl rfl rfl (by decide) (by decide)) fun r => ?_
 refine aF rfl (eE (sz := 1) (by_ := 1) (info := Tryz.t4) Nq (by kernel_rfl) rfl rfl rfl rfl (by decide) rfl rfl en rfl rfl (by simp only [maxLen, QbC]; omega) (by grind)) ?_
 rintro _ _ ⟨s, t, rfl, rfl⟩
 refine aw ?_
 refine ar dX ?_
 refine aa bW ?_
 refine bR (i + 1) ?_ (he := ?_)
 omega
 grind [Jw, Zc, Zd]
 refine ax ?_
 obtain rfl : i = fr.length := by omega
 exact ⟨_, ⟨b, rfl, rfl⟩, Ze e⟩
theorem Zh {a : Po} {sp i} (b : i < a.length) : i * 1 + 1 ≤ (a.flatMap js ++ sp).length := by rw [Qae, AP]; omega
theorem JB {a : Po} {sp i} (b : i < a.length) : i * 1 + 1 ≤ (a.flatMap jZ ++ sp).length := by rw [Qae, wc]; omega
theorem Zi pb qs po fr (f w : Nat) (hf : f < po.length) (hff : f < fr.length) (hw : w < 16) (ha : d6 po f = (-1, false)) : sQ W0 39 [pQ pb, iQ f, iQ w] (dC pb (qs, po) :: cH qs fr :: R) (iQ 0) (dC pb (qs, po.set f (w, false)) :: cH qs (fr.set f cC) :: R) := by
 have h : eu fr.length f = true := by grind [eu]
 have d : (po.set f ((w : Int), false)).flatMap jZ = po.flatMap jZ := by
  grind [Zb]
 refine am func39 ntmps39 ?_
 refine xZ (pb := pb) (by omega) fun g c p q r i j k s l m n => ?_
 refine aw ?_
 refine ah (ap su (qy qs fr f)) ?_
 refine cn (fun a => ?_) fun a => ?_
 exact absurd a (by simp [h])
 refine dk rfl rfl rfl (fun b => ?_) fun b => ?_
 omega
 refine aw ?_
 refine aC rfl (fun o => ?_) fun o => ?_
 omega
 refine aw ?_
 refine aa (bM hf) ?_
 refine aa (aE (aI (y3 hf))) ?_
 refine ai (fun e => ?_) fun e => ?_
 exact absurd e (by rw [ha]; decide)
 refine aa (bM hf) ?_
 refine ar (dt (Zh hf) (Jx (t := false) hf)) ?_
 refine ah (ap call101 (Jz qs fr f hff)) ?_
 refine ac ?_
 exact ⟨_, ⟨rfl, rfl⟩, mM (by simp) (by simp) rfl d.symm j k (by grind [Qae, AP]) l m n⟩
def p8 (po : Po) (w : Int) (k : Nat) : Nat := ((List.range k).filter fun f => decide (d6 po f = (w, false))).length
theorem JC po (w : Nat) : p8 po w po.length = (bS po w).length := by
 grind [p8, bS]
theorem Zj po w k : p8 po w (k + 1) = p8 po w k + if d6 po k = (w, false) then 1 else 0 := by
 grind [p8, List.range_succ]
theorem Zk po w k : p8 po w k ≤ k := by
 have := QaL (fun f => decide (d6 po f = (w, false))) (List.range k)
 rwa [QcM] at this
theorem Zl pb qs po (w : Nat) (h0 : 0 < po.length) (h32 : po.length ≤ 32) : sQ W0 268 [pQ pb, iQ w] (dC pb (qs, po) :: R) (iQ ((bS po w).length)) (dC pb (qs, po) :: R) := by
 refine am func268 ntmps268 ?_
 refine cW (fun i : Nat => i ≤ po.length) (fun i => [(0, pQ pb), (1, iQ w), (5, iQ (p8 po w i : Nat)), (6, iQ i)]) (fun _ => dC pb (qs, po) :: R) (fun i => po.length - i) 0 ?_ ?_
 omega
 intro i hi
 refine xZ (pb := pb) (by omega) fun g c g2 c2 sp sp2 h1 h2 h3 k1 k2 k3 => ?_
 have hle := Zk po w i
 refine aw ?_
 refine bN (fun g3_8 => ?_) fun g3_8 => ?_
 refine aC rfl (fun c3 => ?_) fun c3 => ?_
 refine au 2 ?_
 refine cy (fun n : Nat => n = p8 po w (i + 1) ∧ i < po.length) (fun n => [(0, pQ pb), (1, iQ w), (5, iQ n), (6, iQ i)]) (fun _ => dC pb (qs, po) :: R) ?_ ?_
 refine au 2 ?_
 have hi1 : i < po.length := by omega
 have hs := Zj po w i
 refine aw ?_
 refine aa (bM hi1) ?_
 refine aa (aE (aI (y3 hi1))) ?_
 refine bN (fun g5_10 => ?_) fun g5_10 => ?_
 refine bN (fun g5_14 => ?_) fun g5_14 => ?_
 refine aa (bM hi1) ?_
 refine aa (aE (aI (y5 hi1))) ?_
 refine ai (fun c5 => ?_) fun c5 => ?_
 refine aa bW ?_
 refine bq (p8 po w i + 1) ?_ (he := ?_)
 grind
 grind [mM]
 refine bq (p8 po w i) ?_ (he := ?_)
 grind
 grind [mM]
 refine bq (p8 po w i) ?_ (he := ?_)
 refine ⟨?_, hi1⟩
 rw [hs, Qaa (by intro q; have q1 := Qah Prod.fst q; have q2 := Qah Prod.snd q; simp_all)]; rfl
 grind [mM]
 refine bq (p8 po w i) ?_ (he := ?_)
 grind
 grind [mM]
 intro n ⟨hn, hi1⟩
 subst hn
 refine aw ?_
 refine aa bW ?_
 exact bR (i + 1) (by omega)
 refine aw ?_
 refine ac ?_
 obtain rfl : i = po.length := by omega
 rw [JC]
 exact ⟨_, ⟨rfl, rfl⟩, mM rfl rfl rfl rfl h1 h2 h3 k1 k2 k3⟩
 refine ac ?_
 obtain rfl : i = po.length := by omega
 rw [JC]
 exact ⟨_, ⟨rfl, rfl⟩, mM rfl rfl rfl rfl h1 h2 h3 k1 k2 k3⟩
theorem JD pb qs po w f l (H : w < 16) (u : po.length ≤ 32) (o : bS po w = f :: l) : sQ W0 121 [pQ pb, iQ w] (dC pb (qs, po) :: R) (.tuple #[iQ f, iQ 0]) (dC pb (qs, po.set f (w, true)) :: R) := by
 have p := kQ.1 (show f ∈ bS po w by rw [o]; simp)
 have r : ∀ j, j < f → d6 po j ≠ ((w : Int), false) := fun j I q => by
  have s := kQ.2 ⟨by have := p.1; omega, q⟩
  have t := Aw po w
  rw [o] at s t
  rw [Qbh] at t
  rcases QaO.1 s with k | k
  omega
  grind
 have h : (po.set f ((w : Int), true)).flatMap js = po.flatMap js := by
  grind [Jy]
 refine am func121 ntmps121 ?_
 refine dk rfl rfl rfl (fun d => ?_) fun d => ?_
 omega
 refine aw ?_
 refine aC rfl (fun x => ?_) fun x => ?_
 omega
 refine aw ?_
 refine cW (fun i : Nat => i ≤ f) (fun i => [(0, pQ pb), (1, iQ w), (6, iQ i)]) (fun _ => dC pb (qs, po) :: R) (fun i => po.length - i) 0 ?_ ?_
 omega
 intro i J
 have y := p.1
 refine xZ (pb := pb) (by omega) fun g c K L M z A B C D E N => ?_
 refine aw ?_
 refine bN (fun e => ?_) fun e => ?_
 refine ai (fun F => ?_) fun F => ?_
 have a : i < po.length := by omega
 refine aa (bM a) ?_
 refine aa (aE (aI (y3 a))) ?_
 refine bN (fun b => ?_) fun b => ?_
 refine aa (bM a) ?_
 refine aa (aE (aI (y5 a))) ?_
 refine ai (fun G => ?_) fun G => ?_
 have m : i = f := by
  grind
 subst m
 refine aa (bM a) ?_
 refine ar (dt (JB a) (Ek (v := (w : Int)) a)) ?_
 refine ax ?_
 exact ⟨_, ⟨rfl, rfl⟩, mM (by simp) (by simp) h.symm rfl A B C D E (by grind [Qae, wc])⟩
 have n : i ≠ f := by
  grind
 refine aa bW ?_
 refine bR (i + 1) ?_ (he := ?_)
 omega
 grind [mM]
 have n : i ≠ f := by
  grind
 refine aa bW ?_
 refine bR (i + 1) ?_ (he := ?_)
 omega
 grind [mM]
 refine ax ?_
 exfalso; omega
 refine ax ?_
 exfalso; omega
theorem Zm a (c p : Nat) ws (f : 1 ≤ p) (b : p ≤ 8) (g : ws.length < 9223372036854775808) (i : ws.length ≤ c) : sQ W0 269 [.slice a ws.length c, iQ p] R (.slice a (bA ws p).length c) R := by
 have d := wa ws p
 refine am func269 ntmps269 ?_
 refine aC rfl (fun e => ?_) fun e => ?_
 omega
 refine aw ?_
 refine aa (uh rfl rfl (Jq b)) ?_
 refine aa (lc (16 * p)) ?_
 refine aa (uh rfl rfl (Ej (16 * p) ws.length)) ?_
 refine aa (oM tQ aX rfl rfl (h := min (16 * p) ws.length) rfl (by omega)) ?_
 refine ac ?_
 rw [d]
 exact ao
theorem Zn {ws i k} (a : k < 16) : (e9 ws i)[k]? = ws[16 * i + k]? := by
 grind [e9]
theorem Zo {f : Nat} {ws : List Nat} {i k : Nat} (d : k < 16) (b : List aD) : iX f ((e9 ws i).take (k + 1)) 0 b = match ws[16 * i + k]? with | some y => fM (iX f ((e9 ws i).take k) 0 b) f (4 * k : Nat) 4 y | none => iX f ((e9 ws i).take k) 0 b := by
 have a := Zn (ws := ws) (i := i) d
 cases e : ws[16 * i + k]? with
 | none =>
  rw [e] at a
  have := List.getElem?_eq_none_iff.1 a
  rw [QaU (by omega), QaU this]
 | some y =>
  rw [e] at a
  obtain ⟨c, g⟩ := List.getElem?_eq_some_iff.1 a
  rw [Qao c, g, E2, QaQ, Qbm (by omega), Qac]
theorem Zp pb qs pm b n x (h : ImOk x) (h0 : 0 < x.fr.length) a c ws (N : b < 16) (S : 1 ≤ n) (T : n ≤ 8) (O : qE x.pg 0 8) (hl : n ≤ (bS x.po b).length) (U : ∀ A, Ent A R → cG (aQ W0 A) a 1 iJ ws) (V : ∀ y ∈ ws, y < 4294967296) (W : ws.length < 9223372036854775808) (X : ws.length ≤ c) : sQ W0 187 [pQ pb, pQ qs, pQ pm, iQ b, iQ n, .slice a ws.length c] (dC pb (qs, x.po) :: cH qs x.fr :: pt pm (dI x.pg) :: R) (iQ 0) (dC pb (qs, (cI b (bA ws n) n x).po) :: cH qs (cI b (bA ws n) n x).fr :: pt pm (dI (cI b (bA ws n) n x).pg) :: R) := by
 have P := wa ws n
 have Y := h.len
 have E : ∀ y ∈ bA ws n, y < 4294967296 := fun y C => V y (QbJ C)
 have s : ∀ i, ImOk (cI b (bA ws n) i x) := fun i => ux N h
 have F : ∀ A, Ent A R → cG (aQ W0 A) a 1 iJ (bA ws n) := fun A Z => (U A Z).take _
 have p : ∀ i, (cI b (bA ws n) i x).po.length ≤ 32 := fun i => (s i).po.len
 refine am func187 ntmps187 ?_
 refine dk rfl rfl rfl (fun t => ?_) fun t => ?_
 omega
 refine aw ?_
 refine dk rfl rfl rfl (fun u => ?_) fun u => ?_
 omega
 refine aw ?_
 refine dk rfl rfl rfl (fun q => ?_) fun q => ?_
 omega
 refine aw ?_
 refine aC rfl (fun c1 => ?_) fun c1 => ?_
 omega
 refine aw ?_
 refine cW (fun i : Nat => i ≤ n) (fun i => [(0, pQ pb), (1, pQ qs), (2, pQ pm), (3, iQ b), (4, iQ n), (5, .slice a ws.length c), (13, iQ i)]) (fun i => dC pb (qs, x.po) :: cH qs x.fr :: pt pm (dI x.pg) :: R) (fun i => n - i) 0 ?_ ?_
 omega
 intro i hi
 refine aw ?_
 refine ai (fun c4 => ?_) fun c4 => ?_
 refine ah (ap wU (un pm x.pg h.pg i)) ?_
 refine bu fun bx => ?_
 refine ar aA ?_
 refine ai (fun Q => ?_) fun Q => ?_
 exact absurd Q (by rw [O i (QaG _) (by omega)]; decide)
 refine aa bW ?_
 exact bR (i + 1) (by omega)
 refine ah (ap call268 (Zl pb qs x.po b (by omega) (p 0))) ?_
 refine aC rfl (fun c9 => ?_) fun c9 => ?_
 omega
 refine aw ?_
 refine ah (aB call269 (Zm a c n ws S T W X)) ?_
 refine cW (fun i : Nat => i ≤ n) (fun i => [(0, pQ pb), (1, pQ qs), (2, pQ pm), (3, iQ b), (4, iQ n), (16, .slice a (bA ws n).length c), (17, iQ i)]) (fun i => dC pb (qs, (cI b (bA ws n) i x).po) :: cH qs (cI b (bA ws n) i x).fr :: pt pm (dI (cI b (bA ws n) i x).pg) :: R) (fun i => n - i) 0 ?_ ?_
 omega
 intro i hi
 refine aw ?_
 refine ai (fun G => ?_) fun G => ?_
 have x0 : i < n := by omega
 have v := Ax (who := b) (words := bA ws n) (x := x) i
 have H := (Ay (who := b) (words := bA ws n) O h.pg.len i (by omega)).1
 obtain ⟨f, l, D⟩ : ∃ f l, bS (cI b (bA ws n) i x).po b = f :: l := by
  cases e : bS (cI b (bA ws n) i x).po b with
  | nil => rw [e] at v; simp at v; omega
  | cons f l => exact ⟨f, l, rfl⟩
 obtain ⟨y, C⟩ : ∃ y, cI b (bA ws n) i x = y := ⟨_, rfl⟩
 have d := s i
 have r : cI b (bA ws n) (i + 1) x = jD b (bA ws n) y i := by rw [cI, C]
 have g := p i
 have I := H i (Qam _) (by omega)
 rw [C] at D d g I ⊢
 rw [jD, D] at r
 dsimp only at r
 have x1 := kQ.1 (show f ∈ bS y.po b by rw [D]; simp)
 refine ah (ap call121 (JD pb qs y.po b f l N g D)) ?_
 refine ah (ap Gw (Ai pm y.pg d.pg i ((f : Int), 3))) ?_
 refine ge (fun k : Nat => k ≤ 16) (fun k => [(0, pQ pb), (1, pQ qs), (2, pQ pm), (3, iQ b), (4, iQ n), (16, .slice a (bA ws n).length c), (17, iQ i), (18, iQ f), (20, iQ k)]) (fun k => dC pb (qs, y.po.set f ((b : Int), true)) :: cH qs (iX f ((e9 (bA ws n) i).take k) 0 y.fr) :: pt pm (dI (dL y.pg i ((f : Int), 3))) :: R) (fun k => 16 - k) 0 ?_ ?_ ?_ ?_
 omega
 · repeat (first | exact bK | refine aZ rfl ?_)
 rw [show iX f ((e9 (bA ws n) i).take 0) 0 y.fr = y.fr from rfl]
 exact IO
 intro k hk
 refine aw ?_
 refine aC rfl (fun J => ?_) fun J => ?_
 refine au 2 ?_
 refine cy (fun _ : Unit => k < 16) (fun _ => [(0, pQ pb), (1, pQ qs), (2, pQ pm), (3, iQ b), (4, iQ n), (16, .slice a (bA ws n).length c), (17, iQ i), (18, iQ f), (20, iQ k)]) (fun _ => dC pb (qs, y.po.set f ((b : Int), true)) :: cH qs (iX f ((e9 (bA ws n) i).take (k + 1)) 0 y.fr) :: pt pm (dI (dL y.pg i ((f : Int), 3))) :: R) ?_ ?_
 refine au 2 ?_
 have j : k < 16 := by omega
 have m := Zo (f := f) (ws := bA ws n) (i := i) j y.fr
 refine aw ?_
 refine aa (lc (16 * i)) ?_
 refine aa (dQ (16 * i + k)) ?_
 refine ai (fun K => ?_) fun K => ?_
 have o : 16 * i + k < (bA ws n).length := by omega
 obtain ⟨gb, go, L, w⟩ := (F (dC pb (qs, y.po.set f ((b : Int), true)) :: cH qs (iX f ((e9 (bA ws n) i).take k) 0 y.fr) :: pt pm (dI (dL y.pg i ((f : Int), 3))) :: R) inferInstance).at_ o
 obtain ⟨z, M⟩ : ∃ z, (bA ws n)[16 * i + k] = z := ⟨_, rfl⟩
 rw [M] at w
 have B := E _ (QaF o)
 rw [M] at B
 obtain ⟨hF, x2⟩ := uw (f := f) (l := (e9 (bA ws n) i).take k) (k := 0) d.fr
 rw [QaV o, M] at m
 dsimp only at m
 refine aa (lc (4 * k)) ?_
 refine aa (lc (16 * i)) ?_
 refine aa (dQ (16 * i + k)) ?_
 refine aa (ek tQ aX rfl L rfl rfl o (by first | exact Qac _ | rfl)) ?_
 refine aa (aE (w 0 _ rfl)) ?_
 refine ah (ap Cn (xy qs (iX f ((e9 (bA ws n) i).take k) 0 y.fr) f (4 * k : Nat) 4 z B hF)) ?_
 refine bq () ?_ (he := ?_)
 exact j
 rw [m]
 exact IO
 refine bq () ?_ (he := ?_)
 exact j
 rw [m, Qbk (by omega)]
 exact IO
 intro _ j
 refine aw ?_
 refine aa bW ?_
 exact bR (k + 1) (by omega)
 refine aw ?_
 refine aa bW ?_
 refine bR (i + 1) ?_ (he := ?_)
 omega
 obtain rfl : k = 16 := by omega
 rw [r, show (e9 (bA ws n) i).take 16 = e9 (bA ws n) i from QaU (by rw [e9, QaQ]; omega)]
 exact IO
 refine ac ?_
 obtain rfl : i = n := by omega
 exact ao
def uB (b : Nat) (L : List Int) : HP := chk (fun C => ∃ a c, C = [pt b (ag [.slice a L.length c] 479), osl 3 1 (.slice a L.length c) (L.flatMap lg)])
section
variable {W0 : World} {N : FSz} {K : Act → World → Prop} {e : bi} {A B R R1 R2 : List HP} {b n c : Nat} {L : List Int}
theorem Zq [f : Tk uB b A L R] (h : ∀ a c, av W0 N K e (pt b (ag [.slice a L.length c] 479) :: osl 3 1 (.slice a L.length c) (L.flatMap lg) :: R)) : av W0 N K e A :=
  fV (r := uB) (b := b) (ni fun C d => by obtain ⟨a, c, rfl⟩ := d; exact h a c)
theorem rW {a ys} [d : Tk pt b A (ag [.slice a n c] 479) R1] [e : Tk (osl 3 1) (.slice a n c) R1 ys R2] (f : n = L.length) (g : ys = L.flatMap lg) [q : Ent R2 B] : Ent A (uB b L :: B) := by
 subst f; subst g
 exact (Ent.ofPerm (d.perm.trans (e.perm.cons _))).trans ((fK (R := R2) (C := [_, _]) ⟨a, c, rfl⟩).trans (Ent.cons q))
end
theorem JE x : (lg x).length = 1 := rfl
theorem AQ (L : List Int) : (L.flatMap lg).length = L.length := by rw [cF JE]; omega
theorem Zr (L : List Int) j w : (L.flatMap lg).set j (iQ w) = (L.set j w).flatMap lg := by
 induction L generalizing j with
 | nil => rfl
 | cons x L a =>
  cases j with
  | zero => rfl
  | succ j => simp only [Qbc, lg, Qax, Qaw, Qck] at a ⊢; rw [a]
theorem Zs (L : List Int) : fi (L.flatMap lg) = true := by
 induction L with
 | nil => rfl
 | cons x l a => rw [Qbc, fi, List.all_append, Qan]; exact ⟨rfl, a⟩
theorem Zt (n : Nat) (h : n ≤ 64) : sP W0 322 [iQ n] R (fun v B => ∃ b, v = .tuple #[pQ b, iQ 0] ∧ B = uB b (List.replicate n (-1)) :: R) := by
 refine am func322 ntmps322 ?_
 refine dk rfl rfl rfl (fun d => ?_) fun d => ?_
 omega
 refine aw ?_
 refine aC rfl (fun g => ?_) fun g => ?_
 omega
 refine aw ?_
 refine bB fun e => ?_
 refine ge (fun X : Nat × Option Addr × Nat => X.1 ≤ n) (fun X => [(0, iQ n), (4, pQ e), (5, iQ X.1)]) (fun X => pt e (ag [.slice X.2.1 X.1 X.2.2] 479) :: osl 3 1 (.slice X.2.1 X.1 X.2.2) ((List.replicate X.1 (-1)).flatMap lg) :: R) (fun X => n - X.1) (0, none, 0) ?_ ?_ ?_ ?_
 omega
 · repeat (first | exact bK | refine aZ rfl ?_)
 exact Ent.cons fm
 intro ⟨i, a, c⟩ hi
 dsimp only at hi ⊢
 refine aw ?_
 refine ai (fun j => ?_) fun j => ?_
 refine dw (jP eJ aS ml rfl rfl rfl rfl rfl (by decide) (by decide)) fun m => ?_
 refine aF rfl (eE (sz := 1) (by_ := 8) (info := Tryz.t3) eJ (by kernel_rfl) rfl rfl rfl rfl (by decide) rfl rfl en rfl rfl (by simp only [maxLen]; omega) (by omega)) ?_
 rintro _ _ ⟨k, l, rfl, rfl⟩
 have f : (List.replicate i (-1)).flatMap lg ++ [Value.int .i64 (-1)] = (List.replicate (i + 1) (-1 : Int)).flatMap lg := by
  rw [QbK, Qbt]; rfl
 rw [f]
 refine aw ?_
 refine ar dX ?_
 refine aa bW ?_
 exact bR (i + 1, k, l) (by omega)
 refine ax ?_
 obtain rfl : i = n := by omega
 exact ⟨_, ⟨e, rfl, rfl⟩, rW (by simp) rfl⟩
def p9 (L : List Int) (f k : Nat) (w : Int) : List Int := (List.range L.length).map fun j => if f ≤ j ∧ j < f + k then w else L.getD j (-1)
theorem El {L f k w} : (p9 L f k w).length = L.length := by simp [p9]
theorem Zu {L f w} : p9 L f 0 w = L := by
 grind [QaP, El, p9]
theorem Zv {L f k w} (h : f + k < L.length) : (p9 L f k w).set (f + k) w = p9 L f (k + 1) w := by
 apply QaP
 simp [p9]
 grind [p9]
theorem Zw {L} {f k : Nat} {w} (h : jb L f k w = 0) : mK L f k w = p9 L f k w := by
 grind [mK, p9]
theorem Zx {L} {f k i : Nat} {w} (a : ¬ ((f : Int) < 0 ∨ (k : Int) < 1 ∨ (L.length : Int) < f ∨ (L.length : Int) - f < k ∨ w < 0 ∨ 64 ≤ w)) (b : i < k) (h : 0 ≤ L.getD (f + i) (-1)) : jb L f k w = 5 := by
 rw [jb, Qaa a, Qad]
 rw [Qbo]
 exact ⟨i, QbD.2 (by omega), Qai (by grind)⟩
theorem Zy {L} {f k : Nat} {w} (b : ¬ ((f : Int) < 0 ∨ (k : Int) < 1 ∨ (L.length : Int) < f ∨ (L.length : Int) - f < k ∨ w < 0 ∨ 64 ≤ w)) (h : ∀ j, j < k → ¬ 0 ≤ L.getD (f + j) (-1)) : jb L f k w = 0 := by
 rw [jb, Qaa b, Qaa]
 intro q
 obtain ⟨i, c, a⟩ := Qbo.1 q
 have a := Qar a
 rw [Qaf] at a
 exact h i (by grind) a
theorem Zz b L (J : L.length ≤ 64) f k w : sQ W0 323 [pQ b, iQ f, iQ k, iQ w] (uB b L :: R) (iQ (jb L f k w)) (uB b (mK L f k w) :: R) := by
 refine am func323 ntmps323 ?_
 refine Zq (b := b) fun a c => ?_
 refine aw ?_
 refine cn (fun m => ?_) fun m => ?_
 refine ac ?_
 have d : jb L f k w = 1 := by grind [jb]
 rw [mK, d, Qaa (by decide)]
 exact ⟨_, ⟨rfl, rfl⟩, rW rfl rfl⟩
 refine cn (fun o => ?_) fun o => ?_
 refine ac ?_
 have d : jb L f k w = 1 := by grind [jb]
 rw [mK, d, Qaa (by decide)]
 exact ⟨_, ⟨rfl, rfl⟩, rW rfl rfl⟩
 refine cn (fun e => ?_) fun e => ?_
 refine ac ?_
 have d : jb L f k w = 1 := by grind [jb]
 rw [mK, d, Qaa (by decide)]
 exact ⟨_, ⟨rfl, rfl⟩, rW rfl rfl⟩
 refine aa gz ?_
 refine cn (fun h => ?_) fun h => ?_
 refine ac ?_
 have d : jb L f k w = 1 := by grind [jb]
 rw [mK, d, Qaa (by decide)]
 exact ⟨_, ⟨rfl, rfl⟩, rW rfl rfl⟩
 refine cn (fun l => ?_) fun l => ?_
 refine ac ?_
 have d : jb L f k w = 1 := by grind [jb]
 rw [mK, d, Qaa (by decide)]
 exact ⟨_, ⟨rfl, rfl⟩, rW rfl rfl⟩
 refine ai (fun A => ?_) fun A => ?_
 refine ac ?_
 have d : jb L f k w = 1 := by grind [jb]
 rw [mK, d, Qaa (by decide)]
 exact ⟨_, ⟨rfl, rfl⟩, rW rfl rfl⟩
 have x : ¬ (f < 0 ∨ k < 1 ∨ (L.length : Int) < f ∨ (L.length : Int) - f < k ∨ w < 0 ∨ 64 ≤ w) := by omega
 obtain ⟨f, rfl⟩ : ∃ B : Nat, f = (B : Int) := ⟨f.toNat, by omega⟩
 obtain ⟨k, rfl⟩ : ∃ C : Nat, k = (C : Int) := ⟨k.toNat, by omega⟩
 have D : f + k ≤ L.length := by omega
 refine vG (E := 3) (sz := 1) (a := a) (c := c) (n := L.length) (ys := L.flatMap lg) (fun F => ?_)
 obtain ⟨g, rfl⟩ := vU F (by grind [AQ])
 refine aw ?_
 refine cW (fun i : Nat => i ≤ k ∧ ∀ j, j < i → ¬ 0 ≤ L.getD (f + j) (-1)) (fun i => [(0, pQ b), (1, iQ f), (2, iQ k), (3, iQ w), (9, iQ i)]) (fun i => pt b (ag [.slice (some ⟨g, 0, none⟩) L.length c] 479) :: osl 3 1 (.slice (some ⟨g, 0, none⟩) L.length c) (L.flatMap lg) :: R) (fun i => k - i) 0 ?_ ?_
 grind
 intro i ⟨K, y⟩
 refine aw ?_
 refine ai (fun G => ?_) fun G => ?_
 have r : f + i < L.length := by omega
 have s : L[f + i]? = some (L.getD (f + i) (-1)) := by grind
 refine ae rfl (dQ (f + i)) ?_
 refine ae rfl (bM r) ?_
 refine ae rfl (co db rfl (J6 (f := lg) (E := 3) (sz := 1) (n := L.length) (c := c) rfl JE (by decide) s 0 _ rfl)) ?_
 refine ae rfl (vl rfl rfl) (aL (aH ?_))
 refine aC rfl (fun t => ?_) fun t => ?_
 refine aO ?_
 refine aY (ae rfl (bC rfl) (aL (aH (dE (mn (iP (iP (mn (iP (ac ?_))))))))))
 have d : jb L f k w = 5 := Zx x (by omega) t
 rw [mK, d, Qaa (by decide)]
 exact ⟨_, ⟨rfl, rfl⟩, rW rfl rfl⟩
 refine jk (oI (aH (aY (ae rfl (aM rfl) ?_))))
 refine ae rfl (dh rfl rfl (by first | exact cj (by omega) | rfl)) ?_
 refine ae rfl (bC rfl) (aL (aH (bR (i + 1) ?_)))
 refine ⟨by omega, fun j H => ?_⟩
 rcases QaC j i with q | q
 exact y j q
 rw [show j = i by omega]; exact t
 obtain rfl : i = k := by omega
 have d : jb L f i w = 0 := Zy x y
 refine aF rfl (vB eJ aS rfl) ?_
 rintro _ _ ⟨M, rfl, rfl⟩
 refine aw ?_
 refine aF rfl (eE (sz := 1) (by_ := 8) (info := Tryz.t3) eJ (by kernel_rfl) rfl rfl rfl rfl (by decide) rfl rfl (xq (E := 3) (sz := 1) (a := some ⟨g, 0, none⟩) (c := c) (n := L.length)) (by rw [AQ, Qaz]) (Zs L) (by simp only [maxLen]; omega) (by omega)) ?_
 rintro _ _ ⟨I, p, rfl, rfl⟩
 rw [Qaw, Qac]
 refine vG (E := 3) (sz := 1) (a := I) (c := p) (n := L.length) (ys := L.flatMap lg) (fun u => ?_)
 obtain ⟨z, rfl⟩ := vU u (by grind [AQ])
 refine aw ?_
 refine ge (fun j : Nat => j ≤ i) (fun j => [(0, pQ b), (1, iQ f), (2, iQ i), (3, iQ w), (10, .slice (some ⟨z, 0, none⟩) L.length p), (11, iQ j)]) (fun j => pt b (ag [.slice (some ⟨g, 0, none⟩) L.length c] 479) :: osl 3 1 (.slice (some ⟨z, 0, none⟩) L.length p) ((p9 L f j w).flatMap lg) :: R) (fun j => i - j) 0 ?_ ?_ ?_ ?_
 exact QaG _
 · repeat (first | exact bK | refine aZ rfl ?_)
 rw [Zu]; exact inferInstance
 intro j H
 refine aw ?_
 refine ai (fun v => ?_) fun v => ?_
 refine aa (dQ (f + j)) ?_
 refine aa (bM (by omega)) ?_
 refine ar (YL (E := 3) (sz := 1) (n := L.length) (c := p) (l' := (p9 L f (j + 1) w).flatMap lg) aS rfl rfl rfl (by rw [AQ, El]; omega) (by rw [Qaz, Zr, Zv (by omega)])) ?_
 refine aa bW ?_
 exact bR (j + 1) (by omega)
 refine ar dX ?_
 refine ac ?_
 obtain rfl : j = i := by omega
 rw [d, Zw d]
 exact ⟨_, ⟨rfl, rfl⟩, rW El.symm rfl⟩
theorem ZA {c : Nat} (h : c ≤ 8) : ip .i64 1 c = (2 ^ c : Nat) := by
 have : c = 0 ∨ c = 1 ∨ c = 2 ∨ c = 3 ∨ c = 4 ∨ c = 5 ∨ c = 6 ∨ c = 7 ∨ c = 8 := by omega
 rcases this with rfl | rfl | rfl | rfl | rfl | rfl | rfl | rfl | rfl <;> rfl
theorem ZB {l cats} : gJ l cats = true ↔ 0 ≤ cats ∧ cats ≤ 8 ∧ 0 ≤ l ∧ l < (2 ^ cats.toNat : Nat) := by
 simp only [gJ, Qan, Qaj, rT]
 constructor
 rintro ⟨⟨⟨b, d⟩, e, g⟩, f⟩
 refine ⟨b, d, e, ?_⟩
 obtain ⟨c, rfl⟩ : ∃ c : Nat, cats = (c : Int) := ⟨cats.toNat, by omega⟩
 obtain ⟨x, rfl⟩ : ∃ x : Nat, l = (x : Int) := ⟨l.toNat, by omega⟩
 rw [jU (k := .i64) (a := x) (s := c) (by show c ≤ 64; omega)] at f
 have h : x / 2 ^ c = 0 := by omega
 have := (Nat.div_eq_zero_iff_lt (Qcq c)).1 h
 rw [Qaf]; omega
 rintro ⟨b, d, e, g⟩
 obtain ⟨c, rfl⟩ : ∃ c : Nat, cats = (c : Int) := ⟨cats.toNat, by omega⟩
 obtain ⟨x, rfl⟩ : ∃ x : Nat, l = (x : Int) := ⟨l.toNat, by omega⟩
 rw [Qaf] at g
 have f : x < 2 ^ c := by omega
 have h : 2 ^ c ≤ 2 ^ 8 := Qct (by decide) (by omega)
 refine ⟨⟨⟨b, d⟩, e, by omega⟩, ?_⟩
 rw [jU (k := .i64) (a := x) (s := c) (by show c ≤ 64; omega), Nat.div_eq_of_lt f]; rfl
theorem Em l cats : sQ W0 321 [iQ l, iQ cats] R (.bool (gJ l cats)) R := by
 have b := ZB (l := l) (cats := cats)
 refine am func321 ntmps321 ?_
 refine bN (fun c => ?_) fun c => ?_
 refine bN (fun d => ?_) fun d => ?_
 refine bN (fun a => ?_) fun a => ?_
 obtain ⟨k, rfl⟩ : ∃ k : Nat, cats = (k : Int) := ⟨cats.toNat, by omega⟩
 have e := Qcq k
 rw [Qaf] at b
 refine aa (l9 rfl rfl (by omega) (ZA (by omega))) ?_
 refine ac ?_
 refine aG ?_
 refine Qah Value.bool ?_
 rw [Qag, b]
 first
   | (rw [Qaj]; constructor
      · intro q; omega
      · intro q; omega)
   | (constructor
      · intro q; first | omega | (cases q)
      intro q; omega)
 refine ac ?_
 refine aG ?_
 refine Qah Value.bool ?_
 rw [Qag, b]
 first
   | (rw [Qaj]; constructor
      · intro q; omega
      · intro q; omega)
   | (constructor
      · intro q; first | omega | (cases q)
      intro q; omega)
 refine ac ?_
 refine aG ?_
 refine Qah Value.bool ?_
 rw [Qag, b]
 first
   | (rw [Qaj]; constructor
      · intro q; omega
      · intro q; omega)
   | (constructor
      · intro q; first | omega | (cases q)
      intro q; omega)
 refine ac ?_
 refine aG ?_
 refine Qah Value.bool ?_
 rw [Qag, b]
 first
   | (rw [Qaj]; constructor
      · intro q; omega
      · intro q; omega)
   | (constructor
      · intro q; first | omega | (cases q)
      intro q; omega)
theorem y6 c i : sQ W0 255 [.agg (dy c).toArray, iQ i] R (.bool (ia c i)) R := by
 refine am func255 ntmps255 ?_
 refine bB fun b => ?_
 refine bN (fun a => ?_) fun a => ?_
 refine ac ?_
 refine aG ?_
 refine Qah Value.bool ?_
 rw [Qag, ia, Qaj]
 first
   | (rw [Qaj]; constructor
      · intro q; omega
      · intro q; omega)
   | (constructor
      · intro q; first | omega | (cases q)
      intro q; omega)
 refine ac ?_
 refine aG ?_
 refine Qah Value.bool ?_
 rw [Qag, ia, Qaj]
 first
   | (rw [Qaj]; constructor
      · intro q; omega
      · intro q; omega)
   | (constructor
      · intro q; first | omega | (cases q)
      intro q; omega)
theorem y7 {w : Nat → Bool} {i} (h : ∀ j, j < i → w j = false) (a : w i = false) : ∀ j, j < i + 1 → w j = false := fun j b => by
 rcases QaC j i with q | q
 exact h j q
 grind
theorem ZC c (h : CfOk W0 c) : sP W0 250 [.agg (dy c).toArray] R (fun v B => ∃ r, v = .tuple #[.bool (kI c), iQ r] ∧ B = R) := by
 refine am func250 ntmps250 ?_
 refine bB fun y => ?_
 refine cn (fun l => ?_) fun l => ?_
 refine ax ?_
 rw [kI, Qai (by omega), Qbv]
 exact ⟨_, ⟨0, rfl, rfl⟩, IO⟩
 refine ai (fun D => ?_) fun D => ?_
 refine ax ?_
 rw [kI, Qai (by omega), Qbv]
 exact ⟨_, ⟨0, rfl, rfl⟩, IO⟩
 refine cW (fun i : Nat => i ≤ c.gl.length ∧ (∀ j, j < i → pP c.cats (c.gl.getD j (0, 0, 0)) = false)) (fun i => [(1, pQ y), (4, iQ i)]) (fun _ => pt y (eA c) :: R) (fun i => c.gl.length - i) 0 ?_ ?_
 grind
 intro i ⟨H, z⟩
 refine aw ?_
 refine ai (fun E => ?_) fun E => ?_
 have d : i < c.gl.length := by omega
 obtain ⟨g, o, n, A⟩ := (h.g []).at_ d
 obtain ⟨x, F⟩ : ∃ x, c.gl[i] = x := ⟨_, rfl⟩
 have p : c.gl.getD i (0, 0, 0) = x := by grind
 rw [F] at A
 have a : pP c.cats x = true → kI c = true := fun q => by
  rw [kI, w6 (w := fun i => pP c.cats (c.gl.getD i (0, 0, 0))) d (by grind), QcE]
 have s := fun q => y7 (w := fun i => pP c.cats (c.gl.getD i (0, 0, 0))) z (show pP c.cats (c.gl.getD i (0, 0, 0)) = false by rw [p]; exact q)
 obtain ⟨v, C⟩ : ∃ v, gJ x.1 c.cats = v := ⟨_, rfl⟩
 have t := xX (cats := c.cats) (g := x)
 have b := tc (cats := c.cats) (g := x)
 rw [C] at t b
 refine aa (ek mZ l6 rfl n rfl rfl d (by first | exact Qac _ | rfl)) ?_
 refine aa (dj A.weak) ?_
 refine bu fun I => ?_
 refine fh (gi l6 rfl rfl rfl rfl rfl) ?_
 rintro _ _ rfl
 refine aL (aH (aO (aY ?_)))
 refine ae rfl (d5 rfl mj rfl aS rfl (by first | exact Qac _ | rfl)) ?_
 refine ae rfl (co db rfl (aI rfl)) ?_
 refine ae rfl (d5 rfl Cc rfl aS rfl (by first | exact Qac _ | rfl)) ?_
 refine ae rfl (co db rfl (aI rfl)) ?_
 refine aF rfl (iz NT rfl (Em x.1 c.cats)) ?_
 rintro _ J ⟨rfl, u⟩
 obtain rfl := u.symm
 rw [C]
 refine aw ?_
 refine dk rfl rfl rfl (fun m => ?_) fun m => ?_
 refine au 37 ?_
 refine ax ?_
 rw [a (b (by grind))]
 exact ⟨_, ⟨_, rfl, rfl⟩, IO⟩
 refine ae rfl (d5 rfl mj rfl aS rfl (by first | exact Qac _ | rfl)) ?_
 refine cM rfl rfl (ae rfl (co db rfl (aI rfl)) ?_)
 refine cM rfl rfl (ae rfl (nh rfl rfl) (ae rfl (iR rfl rfl) (ae rfl (aM rfl) ?_)))
 refine dk rfl rfl rfl (fun e => ?_) fun e => ?_
 refine au 32 ?_
 refine ax ?_
 rw [a (b (by grind))]
 exact ⟨_, ⟨_, rfl, rfl⟩, IO⟩
 refine ae rfl (d5 rfl mj rfl aS rfl (by first | exact Qac _ | rfl)) ?_
 refine cM rfl rfl (ae rfl (co db rfl (aI rfl)) ?_)
 refine cM rfl rfl (ae rfl (u6 rfl rfl) (ae rfl (iR rfl rfl) (ae rfl (aM rfl) ?_)))
 refine dk rfl rfl rfl (fun f => ?_) fun f => ?_
 refine au 27 ?_
 refine ax ?_
 rw [a (b (by grind))]
 exact ⟨_, ⟨_, rfl, rfl⟩, IO⟩
 refine ae rfl (d5 rfl mj rfl aS rfl (by first | exact Qac _ | rfl)) ?_
 refine cM rfl rfl (ae rfl (co db rfl (aI rfl)) ?_)
 refine cM rfl rfl (ae rfl (nh rfl rfl) (ae rfl (iR rfl rfl) (ae rfl (aM rfl) ?_)))
 refine dk rfl rfl rfl (fun k => ?_) fun k => ?_
 refine au 22 ?_
 refine ax ?_
 rw [a (b (by grind))]
 exact ⟨_, ⟨_, rfl, rfl⟩, IO⟩
 refine ae rfl (d5 rfl mj rfl aS rfl (by first | exact Qac _ | rfl)) ?_
 refine cM rfl rfl (ae rfl (co db rfl (aI rfl)) ?_)
 refine cM rfl rfl ?_
 refine ae rfl (d5 rfl mj rfl aS rfl (by first | exact Qac _ | rfl)) ?_
 refine cM rfl rfl (ae rfl (co db rfl (aI rfl)) ?_)
 refine cM rfl rfl ?_
 refine ae rfl (l8 rfl rfl (cj (by omega))) ?_
 refine cM rfl rfl (ae rfl (u6 rfl rfl) (ae rfl (iR rfl rfl) (aL (aH ?_))))
 refine ai (fun G => ?_) fun G => ?_
 refine ax ?_
 rw [a (b (by grind))]
 exact ⟨_, ⟨_, rfl, rfl⟩, IO⟩
 refine aa bW ?_
 refine bR (i + 1) ?_
 grind
 refine ax ?_
 obtain rfl : i = c.gl.length := by omega
 rw [kI, Qal (by omega), Qbs, xW z]
 exact ⟨_, ⟨0, rfl, rfl⟩, IO⟩
theorem ZD c (h : CfOk W0 c) : sP W0 251 [.agg (dy c).toArray] R (fun v B => ∃ r, v = .tuple #[.bool (oZ c), iQ r] ∧ B = R) := by
 refine am func251 ntmps251 ?_
 refine bB fun w => ?_
 refine ai (fun D => ?_) fun D => ?_
 refine ax ?_
 rw [oZ, Qai (by omega), Qbv]
 exact ⟨_, ⟨0, rfl, rfl⟩, IO⟩
 refine aF rfl (aB call322 (Zt 32 (by decide))) ?_
 rintro _ y ⟨p, rfl, a⟩
 obtain rfl := a.symm
 refine aw ?_
 refine cW (fun X : Nat × List Int => X.1 ≤ c.rl.length ∧ (∀ j, j < X.1 → rV c j = false) ∧ X.2.length = 32 ∧ RT (jF c X.1) X.2) (fun X => [(1, pQ w), (4, pQ p), (6, iQ X.1)]) (fun X => uB p X.2 :: pt w (eA c) :: R) (fun X => c.rl.length - X.1) (0, List.replicate 32 (-1)) ?_ ?_
 exact ⟨QaG _, fun j E => absurd E (QbE _), rfl, YK 32⟩
 intro ⟨i, L⟩ ⟨F, s, l, d⟩
 dsimp only at F s l d ⊢
 refine aw ?_
 refine ai (fun G => ?_) fun G => ?_
 have e : i < c.rl.length := by omega
 obtain ⟨g, o, t, z⟩ := (h.r []).at_ e
 obtain ⟨x, H⟩ : ∃ x, c.rl[i] = x := ⟨_, rfl⟩
 have A : qL c i = x := by grind [qL]
 rw [H] at z
 have u : jF c (i + 1) = if gJ x.1 c.cats = true then kJ (jF c i) 32 x.2.1 x.2.2 i else jF c i := by rw [jF, A]
 have m : rV c i = !(gJ x.1 c.cats && decide (iH (jF c i) 32 x.2.1 x.2.2 i = 0)) := by rw [rV, A]
 have I := Jg d (n := 32) (by rw [l]; rfl) x.2.1 x.2.2 i
 have J := YJ d (n := 32) (by rw [l]; rfl) (by decide) x.2.1 x.2.2 i
 rw [← I] at m
 have b : rV c i = true → oZ c = true := fun q => by rw [oZ, w6 e q, QcE]
 obtain ⟨v, C⟩ : ∃ v, gJ x.1 c.cats = v := ⟨_, rfl⟩
 rw [C] at u m
 refine aa (ek Ns Ca rfl t rfl rfl e (by first | exact Qac _ | rfl)) ?_
 refine aa (dj z.weak) ?_
 refine bu fun N => ?_
 refine fh (gi Ca rfl rfl rfl rfl rfl) ?_
 rintro _ _ rfl
 refine aL (aH (aO (aY ?_)))
 refine ae rfl (d5 rfl zw rfl aS rfl (by first | exact Qac _ | rfl)) ?_
 refine ae rfl (co db rfl (aI rfl)) ?_
 refine ae rfl (d5 rfl Cc rfl aS rfl (by first | exact Qac _ | rfl)) ?_
 refine ae rfl (co db rfl (aI rfl)) ?_
 refine aF rfl (iz NT rfl (Em x.1 c.cats)) ?_
 rintro _ y ⟨rfl, a⟩
 obtain rfl := a.symm
 rw [C]
 refine aw ?_
 refine dk rfl rfl rfl (fun f => ?_) fun f => ?_
 refine au 24 ?_
 refine ax ?_
 rw [b (by grind)]
 exact ⟨_, ⟨_, rfl, rfl⟩, IO⟩
 refine ae rfl (aM rfl) (cM rfl rfl ?_)
 refine ae rfl (d5 rfl zw rfl aS rfl (by first | exact Qac _ | rfl)) ?_
 refine cM rfl rfl (ae rfl (co db rfl (aI rfl)) ?_)
 refine cM rfl rfl ?_
 refine ae rfl (d5 rfl zw rfl aS rfl (by first | exact Qac _ | rfl)) ?_
 refine cM rfl rfl (ae rfl (co db rfl (aI rfl)) ?_)
 refine cM rfl rfl (ae rfl (aM rfl) (cM rfl rfl ?_))
 refine aF rfl (ir call323 rfl (Zz p L (by omega) x.2.1 x.2.2 i)) ?_
 rintro _ y ⟨rfl, a⟩
 obtain rfl := a.symm
 refine cM rfl rfl (ae rfl (oJ rfl rfl) (ae rfl (iR rfl rfl) (aL (aH ?_))))
 refine ai (fun K => ?_) fun K => ?_
 refine ax ?_
 rw [b (by grind)]
 exact ⟨_, ⟨_, rfl, rfl⟩, IO⟩
 have k : v = true := by grind
 have M : jb L x.2.1 x.2.2 i = 0 := by omega
 rw [k, Qad rfl] at u
 rw [k, M] at m
 refine aa bW ?_
 exact bR (i + 1, mK L x.2.1 x.2.2 i) (⟨by omega, y7 s m, Je.trans l, by rw [u]; exact J⟩)
 refine ax ?_
 obtain rfl : i = c.rl.length := by omega
 rw [oZ, Qal (by omega), Qbs, xW s]
 exact ⟨_, ⟨0, rfl, rfl⟩, IO⟩
theorem ZE c (h : CfOk W0 c) : sP W0 254 [.agg (dy c).toArray] R (fun v B => ∃ r, v = .tuple #[.bool (oe c), iQ r] ∧ B = R) := by
 refine am func254 ntmps254 ?_
 refine bB fun p => ?_
 refine cn (fun e => ?_) fun e => ?_
 refine ax ?_
 rw [oe, Qai (by omega), Qbv]
 exact ⟨_, ⟨0, rfl, rfl⟩, IO⟩
 refine ai (fun z => ?_) fun z => ?_
 refine ax ?_
 rw [oe, Qai (by omega), Qbv]
 exact ⟨_, ⟨0, rfl, rfl⟩, IO⟩
 refine cW (fun i : Nat => i ≤ c.sl.length ∧ (∀ j, j < i → oY c (c.sl.getD j (0, 0)) = false)) (fun i => [(1, pQ p), (4, iQ i)]) (fun _ => pt p (eA c) :: R) (fun i => c.sl.length - i) 0 ?_ ?_
 grind
 intro i ⟨F, t⟩
 refine aw ?_
 refine ai (fun A => ?_) fun A => ?_
 have b : i < c.sl.length := by omega
 obtain ⟨g, o, k, u⟩ := (h.s []).at_ b
 obtain ⟨x, C⟩ : ∃ x, c.sl[i] = x := ⟨_, rfl⟩
 have l : c.sl.getD i (0, 0) = x := by grind
 rw [C] at u
 have a : oY c x = true → oe c = true := fun q => by
  rw [oe, w6 (w := fun i => oY c (c.sl.getD i (0, 0))) b (by grind), QcE]
 have m := fun q => y7 (w := fun i => oY c (c.sl.getD i (0, 0))) t (show oY c (c.sl.getD i (0, 0)) = false by rw [l]; exact q)
 obtain ⟨v, y⟩ : ∃ v, ia c x.1 = v := ⟨_, rfl⟩
 have D : oY c x = !(v && decide (1 ≤ x.2 ∧ x.2 ≤ 32)) := by rw [oY, y]
 refine aa (ek Nt Nn rfl k rfl rfl b (by first | exact Qac _ | rfl)) ?_
 refine aa (dj u.weak) ?_
 refine bu fun G => ?_
 refine ar aA ?_
 refine ah (aB Cr (y6 c x.1)) ?_
 rw [y]
 refine cn (fun f => ?_) fun f => ?_
 refine ax ?_
 rw [a (by grind)]
 exact ⟨_, ⟨_, rfl, rfl⟩, IO⟩
 refine cn (fun d => ?_) fun d => ?_
 refine ax ?_
 rw [a (by grind)]
 exact ⟨_, ⟨_, rfl, rfl⟩, IO⟩
 refine ai (fun E => ?_) fun E => ?_
 refine ax ?_
 rw [a (by grind)]
 exact ⟨_, ⟨_, rfl, rfl⟩, IO⟩
 have n : v = true := by grind
 rw [n, Qai (by omega)] at D
 refine aa bW ?_
 refine bR (i + 1) ?_
 grind
 refine ax ?_
 obtain rfl : i = c.sl.length := by omega
 rw [oe, Qal (by omega), Qbs, xW t]
 exact ⟨_, ⟨0, rfl, rfl⟩, IO⟩
theorem we c (q : ∀ A, cG (aQ W0 A) c.ga 3 i9 c.gl) (m : ∀ g ∈ c.gl, 1 ≤ g.2.1 ∧ g.2.1 ≤ 8 ∧ 0 ≤ g.2.2 ∧ g.2.2 ≤ 8 - g.2.1) (r : c.nl.length ≤ 4) (v : c.gl.length ≤ 4) : sQ W0 94 [.agg (dy c).toArray] R (iQ (fZ c c.gl.length)) R := by
 have e := Eb m r
 refine am func94 ntmps94 ?_
 refine bB fun f => ?_
 refine cW (fun i : Nat => i ≤ c.gl.length) (fun i => [(1, pQ f), (3, iQ (fZ c i)), (4, iQ (i : Nat))]) (fun _ => pt f (eA c) :: R) (fun i => c.gl.length - i) 0 ?_ ?_
 omega
 intro i s
 refine aw ?_
 refine ai (fun t => ?_) fun t => ?_
 have b : i < c.gl.length := by omega
 obtain ⟨g, o, d, n⟩ := (q []).at_ b
 obtain ⟨x, p⟩ : ∃ x, c.gl[i] = x := ⟨_, rfl⟩
 rw [p] at n
 have h := m _ (QaF b)
 rw [p] at h
 have l : fZ c (i + 1) = fZ c i + (x.2.1 + x.2.2) := by grind [fZ]
 have u := e i s
 refine fj [(f, 0, dy c), (g, o + i * 3, i9 x)] 16 mixed rfl (bL (bj n.weak aW)) (fun a => ?_)
 refine aj 0 4 a ?_
 refine az 4 a (ek mZ l6 rfl d rfl rfl b (by first | exact Qac _ | rfl)) ?_
 refine aj 5 1 a ?_
 refine az 6 a (aE (km (k := 1) (j := 1) rfl rfl)) ?_
 refine az 7 a bW ?_
 refine aj 8 3 a ?_
 refine az 11 a (ek mZ l6 rfl d rfl rfl b (by first | exact Qac _ | rfl)) ?_
 refine aj 12 1 a ?_
 refine az 13 a (aE (km (k := 1) (j := 2) rfl rfl)) ?_
 refine az 14 a (dh rfl rfl (by rw [cj (by omega), l]; omega : IntKind.wrap .i64 (fZ c i + x.2.1 + x.2.2) = fZ c (i + 1))) ?_
 refine aj 15 1 a ?_
 refine aJ ?_
 refine aa bW ?_
 exact bR (i + 1) (by omega)
 refine ac ?_
 obtain rfl : i = c.gl.length := by omega
 exact ao
theorem En {W0 c} (h : CfOk W0 c) q : ∃ (b d j : Nat) (i : List Value), (∀ A, bE (aQ W0 A) b (d + j * 3) i) ∧ (ia c q = true → c.ga = some ⟨b, d, none⟩ ∧ q = j ∧ j < c.gl.length ∧ ∃ u, i = i9 u ∧ kS c q = u.1) := by
 cases m : ia c q with
 | false => exact ⟨0, 0, 0, [], fun A k v n => by simp at n, fun h => by cases h⟩
 | true =>
  have o : 0 ≤ q ∧ q < c.gl.length := Qar m
  obtain ⟨j, rfl⟩ : ∃ j : Nat, q = (j : Int) := ⟨q.toNat, by omega⟩
  have e : j < c.gl.length := by omega
  obtain ⟨b, d, a, _⟩ := (h.g []).at_ e
  refine ⟨b, d, j, i9 c.gl[j], fun A => ?_, fun _ => ⟨a, rfl, e, c.gl[j], rfl, ?_⟩⟩
  obtain ⟨p, r, l, f⟩ := (h.g A).at_ e
  rw [a] at l; cases l; exact f
  grind [kS]
theorem ZF {c q} (h : ia c q = true) : 0 ≤ q ∧ q < c.gl.length := Qar h
theorem ZG {c q} (h : ia c q = false) : ¬ (0 ≤ q ∧ q < c.gl.length) := of_decide_eq_false h
theorem ZH c (h : CfOk W0 c) : sP W0 253 [.agg (dy c).toArray] R (fun v B => ∃ r, v = .tuple #[.bool (jE c), iQ r] ∧ B = R) := by
 refine am func253 ntmps253 ?_
 refine bB fun E => ?_
 refine ai (fun X => ?_) fun X => ?_
 refine ax ?_
 rw [jE, Qai (by omega), Qbv]
 exact ⟨_, ⟨0, rfl, rfl⟩, IO⟩
 refine cW (fun i : Nat => i ≤ c.nl.length ∧ (∀ j, j < i → nB c (c.nl.getD j (0, 0)) = false)) (fun i => [(1, pQ E), (4, iQ i)]) (fun _ => pt E (eA c) :: R) (fun i => c.nl.length - i) 0 ?_ ?_
 grind
 intro i ⟨hi, T⟩
 refine aw ?_
 refine ai (fun Y => ?_) fun Y => ?_
 have f : i < c.nl.length := by omega
 obtain ⟨g, o, F, U⟩ := (h.n []).at_ f
 obtain ⟨⟨p, q⟩, Z⟩ : ∃ x, c.nl[i] = x := ⟨_, rfl⟩
 have G : c.nl.getD i (0, 0) = (p, q) := by grind
 rw [Z] at U
 have b : nB c (p, q) = true → jE c = true := fun z => by
  rw [jE, w6 (w := fun i => nB c (c.nl.getD i (0, 0))) f (by grind), QcE]
 have H := fun z => y7 (w := fun i => nB c (c.nl.getD i (0, 0))) T (show nB c (c.nl.getD i (0, 0)) = false by rw [G]; exact z)
 obtain ⟨g1, o1, j1, I, d, u⟩ := En h p
 obtain ⟨g2, o2, j2, J, e, y⟩ := En h q
 obtain ⟨V, A⟩ : ∃ w, ia c p = w := ⟨_, rfl⟩
 obtain ⟨W, C⟩ : ∃ w, ia c q = w := ⟨_, rfl⟩
 have hW : nB c (p, q) = !(V && W && decide (p ≠ q) && oX (kS c p) (kS c q)) := by grind [nB]
 rw [A] at u
 rw [C] at y
 refine aa (ek zo zj rfl F rfl rfl f (by first | exact Qac _ | rfl)) ?_
 refine aa (dj U.weak) ?_
 refine bu fun bx => ?_
 refine ar aA ?_
 refine fj [(E, 0, dy c), (bx, 0, jr (p, q)), (g1, o1 + j1 * 3, I), (g2, o2 + j2 * 3, J)] 37 mixed rfl (bL (bL (bj (d _) (bj (e _) aW)))) (fun a => ?_)
 refine aj 0 3 a ?_
 refine bQ 3 (aB Cr (y6 c p)) ?_; clear a
 rintro _ B_ ⟨rfl, l⟩
 obtain rfl := l.symm
 rw [A]
 refine ⟨(bL (bL (bj (d _) (bj (e _) aW)))), fun a => ?_⟩
 refine aj 4 2 a ?_
 refine mp (t := 27) rfl ?_ ?_
 intro D
 refine aj 6 31 a ?_
 refine aJ ?_
 refine ax ?_
 rw [b (by grind)]
 exact ⟨_, ⟨_, rfl, rfl⟩, IO⟩
 intro D
 refine aj 6 3 a ?_
 refine bQ 9 (aB Cr (y6 c q)) ?_; clear a
 rintro _ B_ ⟨rfl, l⟩
 obtain rfl := l.symm
 rw [C]
 refine ⟨(bL (bL (bj (d _) (bj (e _) aW)))), fun a => ?_⟩
 refine aj 10 3 a ?_
 refine mp (t := 34) rfl ?_ ?_
 intro m
 refine aj 13 24 a ?_
 refine aJ ?_
 refine ax ?_
 rw [b (by grind)]
 exact ⟨_, ⟨_, rfl, rfl⟩, IO⟩
 intro m
 refine aj 13 7 a ?_
 refine mp (t := 41) rfl ?_ ?_
 intro s
 refine aj 20 17 a ?_
 refine aJ ?_
 refine ax ?_
 rw [b (by grind)]
 exact ⟨_, ⟨_, rfl, rfl⟩, IO⟩
 intro s
 obtain rfl : V = true := by grind
 obtain rfl : W = true := by grind
 obtain ⟨K, L, M, u1, rfl, N⟩ := u rfl
 obtain ⟨O, P, Q, u2, rfl, S⟩ := y rfl
 rw [N, S] at hW
 refine aj 20 4 a ?_
 refine az 24 a (ek mZ l6 rfl K rfl L M (by first | exact Qac _ | rfl)) ?_
 refine aj 25 1 a ?_
 refine az 26 a (aE (km (k := 2) (j := 0) rfl rfl)) ?_
 refine aj 27 4 a ?_
 refine az 31 a (ek mZ l6 rfl O rfl P Q (by first | exact Qac _ | rfl)) ?_
 refine aj 32 1 a ?_
 refine az 33 a (aE (km (k := 3) (j := 0) rfl rfl)) ?_
 refine fD 34 rfl rfl (aB call324 (XM u1.1 u2.1)) (bL (bL (bj (d _) (bj (e _) aW)))) fun a => ?_
 refine aj 35 2 a ?_
 refine aJ ?_
 refine ai (fun c7 => ?_) fun c7 => ?_
 refine ax ?_
 rw [b (by grind)]
 exact ⟨_, ⟨_, rfl, rfl⟩, IO⟩
 refine aa bW ?_
 refine bR (i + 1) ?_
 grind
 refine ax ?_
 obtain rfl : i = c.nl.length := by omega
 rw [jE, Qal (by omega), Qbs, xW T]
 exact ⟨_, ⟨0, rfl, rfl⟩, IO⟩
theorem ZI {c g k j} (a : j < k) h (e : (c.pl[j]).2 = g) : oj c g k = true := by
 grind [oj, Qbo, Qco.2]
theorem ZJ {c g k} (a : ∀ j, j < k → (c.pl.getD j (0, 0)).2 ≠ g) : oj c g k = false := by
 rw [oj, Qcv]
 intro x b
 obtain ⟨j, d, rfl⟩ := Qco.1 b
 have := a j (by omega)
 rw [show c.pl.getD j (0, 0) = c.pl[j]'(by omega) by simp [List.getD, show j < c.pl.length by omega]] at this
 simpa using this
theorem ZK c (h : CfOk W0 c) : sP W0 252 [.agg (dy c).toArray] R (fun v B => ∃ r, v = .tuple #[.bool (p7 c), iQ r] ∧ B = R) := by
 refine am func252 ntmps252 ?_
 refine bB fun d => ?_
 refine ai (fun c1 => ?_) fun c1 => ?_
 refine ax ?_
 rw [p7, Qai (by omega), Qbv]
 exact ⟨_, ⟨0, rfl, rfl⟩, IO⟩
 refine cW (fun i : Nat => i ≤ c.pl.length ∧ (∀ j, j < i → qM c j = false)) (fun i => [(1, pQ d), (4, iQ i)]) (fun _ => pt d (eA c) :: R) (fun i => c.pl.length - i) 0 ?_ ?_
 grind
 intro i ⟨hi, hI⟩
 refine aw ?_
 refine ai (fun c4 => ?_) fun c4 => ?_
 have s : i < c.pl.length := by omega
 obtain ⟨g, o, O, hc⟩ := (h.p []).at_ s
 obtain ⟨⟨p, q⟩, hx⟩ : ∃ x, c.pl[i] = x := ⟨_, rfl⟩
 have x1 : c.pl.getD i (0, 0) = (p, q) := by grind
 rw [hx] at hc
 have b : qM c i = true → p7 c = true := fun z => by
  rw [p7, w6 s z, QcE]
 have u := fun z => y7 (w := qM c) hI z
 obtain ⟨g1, o1, j1, P, H, I⟩ := En h q
 obtain ⟨y, e⟩ : ∃ w, ia c q = w := ⟨_, rfl⟩
 obtain ⟨Q, S⟩ : ∃ w, gJ p c.cats = w := ⟨_, rfl⟩
 have hW : qM c i = (!Q || (decide (q ≠ -1) && (!y || decide (p ≠ kS c q) || oj c q i))) := by grind [qM]
 rw [e] at I
 have A : y = true → 0 ≤ q := fun z => (ZF (e.trans z)).1
 have x2 : y = false → ¬ (0 ≤ q ∧ q < c.gl.length) := fun z => ZG (e.trans z)
 refine aa (ek zn zi rfl O rfl rfl s (by first | exact Qac _ | rfl)) ?_
 refine aa (dj hc.weak) ?_
 refine bu fun l => ?_
 refine iB 2 aA ?_
 refine cy (fun _ : Unit => Q = true ∧ (q = -1 ∨ y = true)) (fun _ => [(1, pQ d), (4, iQ i), (5, pQ l)]) (fun _ => pt l (ag (jr (p, q)) 392) :: pt d (eA c) :: R) ?_ ?_
 refine au 6 ?_
 refine ah (aB NT (Em p c.cats)) ?_
 rw [S]
 refine cn (fun J => ?_) fun J => ?_
 refine ax ?_
 rw [b (by grind)]
 exact ⟨_, ⟨_, rfl, rfl⟩, IO⟩
 refine bN (fun C => ?_) fun C => ?_
 refine ah (aB Cr (y6 c q)) ?_
 rw [e]
 refine ai (fun c7 => ?_) fun c7 => ?_
 refine ax ?_
 rw [b (by grind)]
 exact ⟨_, ⟨_, rfl, rfl⟩, IO⟩
 refine bq () ?_
 refine ⟨by simp_all, ?_⟩
 by_cases z : q = -1
 exact .inl z
 right; simp_all
 refine bq () ?_
 refine ⟨by simp_all, ?_⟩
 by_cases z : q = -1
 exact .inl z
 right; simp_all
 intro _ ⟨f, D⟩
 refine cy (fun _ : Unit => Q = true ∧ (q = -1 ∨ (y = true ∧ p = kS c q))) (fun _ => [(1, pQ d), (4, iQ i), (5, pQ l)]) (fun _ => pt l (ag (jr (p, q)) 392) :: pt d (eA c) :: R) ?_ ?_
 refine au 1 ?_
 refine fj [(d, 0, dy c), (l, 0, jr (p, q)), (g1, o1 + j1 * 3, P)] 15 mixed rfl (bL (bL (bj (H _) aW))) (fun a => ?_)
 refine aj 0 4 a ?_
 refine mp (t := 45) rfl ?_ ?_
 intro K
 obtain rfl : y = true := by
  rcases D with z | z
  exact absurd z (by omega)
  exact z
 obtain ⟨T, U, V, u1, rfl, L⟩ := I rfl
 refine aj 4 6 a ?_
 refine az 10 a (ek mZ l6 rfl T rfl U V (by first | exact Qac _ | rfl)) ?_
 refine aj 11 1 a ?_
 refine az 12 a (aE (km (k := 2) (j := 0) rfl rfl)) ?_
 refine aj 13 2 a ?_
 refine aJ ?_
 refine ai (fun c9 => ?_) fun c9 => ?_
 refine ax ?_
 rw [b (by grind)]
 exact ⟨_, ⟨_, rfl, rfl⟩, IO⟩
 refine bq () ?_
 refine ⟨f, ?_⟩
 first
   | (left; rcases D with z | z
      · exact z
      · exact absurd (A z) (by omega))
   | exact .inr ⟨rfl, by rw [L]; omega⟩
 intro K
 refine aj 4 11 a ?_
 refine aJ ?_
 refine bq () ?_
 refine ⟨f, ?_⟩
 first
   | (left; rcases D with z | z
      · exact z
      · exact absurd (A z) (by omega))
   | exact .inr ⟨rfl, by rw [L]; omega⟩
 intro _ ⟨f, m⟩
 rw [f, show (!true) = false from rfl, Qbs] at hW
 refine aw ?_
 refine cW (fun k : Nat => k ≤ i ∧ ∀ j, j < k → 0 ≤ q → (c.pl.getD j (0, 0)).2 ≠ q) (fun k => [(1, pQ d), (4, iQ i), (5, pQ l), (6, iQ k)]) (fun _ => pt l (ag (jr (p, q)) 392) :: pt d (eA c) :: R) (fun k => i - k) 0 ?_ ?_
 grind
 intro k ⟨hk, W⟩
 refine aw ?_
 refine ai (fun X => ?_) fun X => ?_
 have E : k < c.pl.length := by omega
 obtain ⟨g2, o2, M, N⟩ := (h.p []).at_ E
 obtain ⟨⟨p2, Y⟩, Z⟩ : ∃ x, c.pl[k] = x := ⟨_, rfl⟩
 have n : c.pl.getD k (0, 0) = (p2, Y) := by grind
 have x3 : Y = q → oj c q i = true := fun z => ZI (j := k) (by omega) E (by grind)
 rw [Z] at N
 refine fj [(d, 0, dy c), (l, 0, jr (p, q)), (g2, o2 + k * 2, jr (p2, Y))] 14 mixed rfl (bL (bL (bj N.weak aW))) (fun a => ?_)
 refine aj 0 4 a ?_
 refine mp (t := 66) rfl ?_ ?_
 intro F
 refine aj 4 3 a ?_
 refine az 7 a (ek zn zi rfl M rfl rfl E (by first | exact Qac _ | rfl)) ?_
 refine aj 8 1 a ?_
 refine az 9 a (aE (km (k := 2) (j := 1) rfl rfl)) ?_
 refine aj 10 4 a ?_
 refine aJ ?_
 refine ai (fun x0 => ?_) fun x0 => ?_
 refine ax ?_
 have hz : y = true := by
  rcases m with z | z
  omega
  exact z.1
 rw [b (by grind)]
 exact ⟨_, ⟨_, rfl, rfl⟩, IO⟩
 refine aa bW ?_
 refine bR (k + 1) ?_
 refine ⟨by omega, fun j hj G => ?_⟩
 rcases QaC j k with z | z
 exact W j z G
 rw [show j = k by omega, n]
 dsimp only
 omega
 intro F
 refine aj 4 10 a ?_
 refine aJ ?_
 refine aa bW ?_
 refine bR (k + 1) ?_
 refine ⟨by omega, fun j hj G => ?_⟩
 rcases QaC j k with z | z
 exact W j z G
 rw [show j = k by omega, n]
 dsimp only
 omega
 refine aa bW ?_
 refine bR (i + 1) ?_
 refine ⟨by omega, u ?_⟩
 rw [hW]
 rcases m with z | ⟨z1, z2⟩
 rw [z]; rfl
 rw [z1, ZJ (fun j hj => W j (by omega) (A z1)), Qal (by omega : ¬ p ≠ kS c q)]
 simp
 refine ax ?_
 obtain rfl : i = c.pl.length := by omega
 rw [p7, Qal (by omega), Qbs, xW hI]
 exact ⟨_, ⟨0, rfl, rfl⟩, IO⟩
theorem AR {c} (h : jE c = false) : c.nl.length ≤ 4 := by
 grind [jE]
theorem ZL c (h : CfOk W0 c) : sP W0 174 [.agg (dy c).toArray] R (fun v B => ∃ A, v = .tuple #[iQ (om c), iQ A] ∧ B = R) := by
 obtain ⟨N, t⟩ : ∃ w, ia c c.gate = w := ⟨_, rfl⟩
 have y : mJ c = if c.gate = -1 then decide (c.quota ≠ 0) else !(N && decide (0 ≤ c.quota ∧ c.quota ≤ 64)) := by rw [mJ, t]
 obtain ⟨O, C⟩ : ∃ x, om c = x := ⟨_, rfl⟩
 obtain ⟨P, D⟩ : ∃ x, kI c = x := ⟨_, rfl⟩
 obtain ⟨Q, E⟩ : ∃ x, oZ c = x := ⟨_, rfl⟩
 obtain ⟨S, F⟩ : ∃ x, p7 c = x := ⟨_, rfl⟩
 obtain ⟨T, G⟩ : ∃ x, jE c = x := ⟨_, rfl⟩
 obtain ⟨U, H⟩ : ∃ x, oe c = x := ⟨_, rfl⟩
 obtain ⟨m, I⟩ : ∃ x, mJ c = x := ⟨_, rfl⟩
 have a : O = if c.cats < 0 ∨ 8 < c.cats then 12 else if P then 13 else if Q then 14 else if S then 15 else if T then 16 else if U then 17 else if m then 18 else if 32 < fZ c c.gl.length then 19 else 0 := by grind [om]
 rw [I] at y
 rw [C]
 refine am func174 ntmps174 ?_
 refine bB fun b1 => ?_
 refine cn (fun u => ?_) fun u => ?_
 refine ax ?_
 rw [a, Qad (by omega)]
 exact ⟨_, ⟨0, rfl, rfl⟩, IO⟩
 refine ai (fun V => ?_) fun V => ?_
 refine ax ?_
 rw [a, Qad (by omega)]
 exact ⟨_, ⟨0, rfl, rfl⟩, IO⟩
 rw [Qaa (by omega)] at a
 refine aF rfl (aB call250 (ZC c h)) ?_
 rintro _ z ⟨W, rfl, d⟩
 obtain rfl := d.symm
 rw [D]
 refine aw ?_
 refine ai (fun X => ?_) fun X => ?_
 refine ax ?_
 rw [a, Qad (by omega)]
 exact ⟨_, ⟨W, rfl, rfl⟩, IO⟩
 rw [Qaa (by omega)] at a
 refine aF rfl (aB call251 (ZD c h)) ?_
 rintro _ z ⟨Y, rfl, d⟩
 obtain rfl := d.symm
 rw [E]
 refine aw ?_
 refine ai (fun Z => ?_) fun Z => ?_
 refine ax ?_
 rw [a, Qad (by omega)]
 exact ⟨_, ⟨Y, rfl, rfl⟩, IO⟩
 rw [Qaa (by omega)] at a
 refine aF rfl (aB call252 (ZK c h)) ?_
 rintro _ z ⟨r3, rfl, d⟩
 obtain rfl := d.symm
 rw [F]
 refine aw ?_
 refine ai (fun J => ?_) fun J => ?_
 refine ax ?_
 rw [a, Qad (by omega)]
 exact ⟨_, ⟨r3, rfl, rfl⟩, IO⟩
 rw [Qaa (by omega)] at a
 refine aF rfl (aB call253 (ZH c h)) ?_
 rintro _ z ⟨r4, rfl, d⟩
 obtain rfl := d.symm
 rw [G]
 refine aw ?_
 refine ai (fun K => ?_) fun K => ?_
 refine ax ?_
 rw [a, Qad (by omega)]
 exact ⟨_, ⟨r4, rfl, rfl⟩, IO⟩
 rw [Qaa (by omega)] at a
 refine aF rfl (aB call254 (ZE c h)) ?_
 rintro _ z ⟨r5, rfl, d⟩
 obtain rfl := d.symm
 rw [H]
 refine aw ?_
 refine ai (fun L => ?_) fun L => ?_
 refine ax ?_
 rw [a, Qad (by omega)]
 exact ⟨_, ⟨r5, rfl, rfl⟩, IO⟩
 rw [Qaa (by omega)] at a
 refine bN (fun o => ?_) fun o => ?_
 refine ah (aB Cr (y6 c c.gate)) ?_
 rw [t]
 refine cn (fun n => ?_) fun n => ?_
 refine ax ?_
 have b : m = true := by
  grind
 rw [a, b]
 exact ⟨_, ⟨0, rfl, rfl⟩, IO⟩
 refine cn (fun e => ?_) fun e => ?_
 refine ax ?_
 have b : m = true := by
  grind
 rw [a, b]
 exact ⟨_, ⟨0, rfl, rfl⟩, IO⟩
 refine cn (fun f => ?_) fun f => ?_
 refine ax ?_
 have b : m = true := by
  grind
 rw [a, b]
 exact ⟨_, ⟨0, rfl, rfl⟩, IO⟩
 refine bN (fun i => ?_) fun i => ?_
 refine aC rfl (fun p => ?_) fun p => ?_
 refine au 8 ?_
 refine ax ?_
 have b : m = true := by
  rw [y]; split
  exact Qai (by first | omega | simp_all)
  first
    | (rw [Qal (by omega), QcT]; rfl)
    | simp_all
 rw [a, b]
 exact ⟨_, ⟨0, rfl, rfl⟩, IO⟩
 refine au 4 ?_
 have b : m = false := by
  rw [y]; split
  exact Qal (by first | omega | simp_all)
  rw [Qai (by omega)]; simp_all
 rw [b] at a
 have j : kI c = false := by grind
 have k : jE c = false := by grind
 obtain ⟨M, q, r⟩ := w8 j
 refine aw ?_
 refine ah (aB zx (we c h.g (fun g s => (r g s).2) (AR k) q)) ?_
 refine ai (fun l => ?_) fun l => ?_
 refine ax ?_
 rw [a, Qaa (by decide), Qad (by omega)]
 exact ⟨_, ⟨0, rfl, rfl⟩, IO⟩
 refine ax ?_
 rw [a, Qaa (by decide), Qaa (by omega)]
 exact ⟨_, ⟨0, rfl, rfl⟩, IO⟩
 have b : m = false := by
  grind
 rw [b] at a
 have j : kI c = false := by grind
 have k : jE c = false := by grind
 obtain ⟨M, q, r⟩ := w8 j
 refine ah (aB zx (we c h.g (fun g s => (r g s).2) (AR k) q)) ?_
 refine ai (fun l => ?_) fun l => ?_
 refine ax ?_
 rw [a, Qaa (by decide), Qad (by omega)]
 exact ⟨_, ⟨0, rfl, rfl⟩, IO⟩
 refine ax ?_
 rw [a, Qaa (by decide), Qaa (by omega)]
 exact ⟨_, ⟨0, rfl, rfl⟩, IO⟩
 refine cn (fun e => ?_) fun e => ?_
 refine ax ?_
 have b : m = true := by
  grind
 rw [a, b]
 exact ⟨_, ⟨0, rfl, rfl⟩, IO⟩
 refine cn (fun f => ?_) fun f => ?_
 refine ax ?_
 have b : m = true := by
  grind
 rw [a, b]
 exact ⟨_, ⟨0, rfl, rfl⟩, IO⟩
 refine iT rfl rfl rfl (fun i => ?_) fun i => ?_
 refine au 10 ?_
 refine ai (fun p => ?_) fun p => ?_
 refine ax ?_
 have b : m = true := by
  grind
 rw [a, b]
 exact ⟨_, ⟨0, rfl, rfl⟩, IO⟩
 have b : m = false := by
  grind
 rw [b] at a
 have j : kI c = false := by grind
 have k : jE c = false := by grind
 obtain ⟨M, q, r⟩ := w8 j
 refine ah (aB zx (we c h.g (fun g s => (r g s).2) (AR k) q)) ?_
 refine ai (fun l => ?_) fun l => ?_
 refine ax ?_
 rw [a, Qaa (by decide), Qad (by omega)]
 exact ⟨_, ⟨0, rfl, rfl⟩, IO⟩
 refine ax ?_
 rw [a, Qaa (by decide), Qaa (by omega)]
 exact ⟨_, ⟨0, rfl, rfl⟩, IO⟩
 refine au 12 ?_
 have b : m = false := by
  rw [y]; split
  exact Qal (by first | omega | simp_all)
  rw [Qai (by omega)]; simp_all
 rw [b] at a
 have j : kI c = false := by grind
 have k : jE c = false := by grind
 obtain ⟨M, q, r⟩ := w8 j
 refine aw ?_
 refine ah (aB zx (we c h.g (fun g s => (r g s).2) (AR k) q)) ?_
 refine ai (fun l => ?_) fun l => ?_
 refine ax ?_
 rw [a, Qaa (by decide), Qad (by omega)]
 exact ⟨_, ⟨0, rfl, rfl⟩, IO⟩
 refine ax ?_
 rw [a, Qaa (by decide), Qaa (by omega)]
 exact ⟨_, ⟨0, rfl, rfl⟩, IO⟩
theorem AS c (h : CfOk W0 c) : sQ W0 93 [.agg (dy c).toArray] R (.bool (rt c)) R := by
 refine am func93 ntmps93 ?_
 refine bB fun d => ?_
 refine aF rfl (aB call174 (ZL c h)) ?_
 rintro _ e ⟨b, rfl, a⟩
 obtain rfl := a.symm
 refine aw ?_
 refine ac ?_
 refine aG ?_
 refine Qah Value.bool ?_
 rw [Qag, rt]; simp
end
section
def cJ (c : Cfg) (i : Nat) : Int × Int × Int := c.gl.getD i (0, 0, 0)
def dM (c : Cfg) : Nat → Int
 | 0 => 0
 | i + 1 => dM c i + ((cJ c i).2.1 + (cJ c i).2.2)
theorem rX c : ∀ i, fZ c i = dM c i + c.nl.length
 | 0 => by rw [fZ, dM, Int.zero_add]
 | i + 1 => by rw [fZ, dM, rX c i, cJ]; omega
def jG (c : Cfg) (f : Int) : Option Nat := qH (fun i => decide (f < dM c (i + 1))) c.gl.length
def cp (c : Cfg) : Nat := (fZ c c.gl.length).toNat
def Eo (b f : Int) : Option Nat → Int × Int
 | some i => (1, (i : Int))
 | none => (2, f - b)
def lr (c : Cfg) (f : Int) : Int × Int := if rt c = true ∧ 0 ≤ f ∧ f < fZ c c.gl.length then Eo (dM c c.gl.length) f (jG c f) else (0, 0)
structure CfR (c : Cfg) : Prop where
  g1 : 1 ≤ c.gl.length
  g4 : c.gl.length ≤ 4
  gs : ∀ i, i < c.gl.length → 1 ≤ (cJ c i).2.1 ∧ (cJ c i).2.1 ≤ 8 ∧ 0 ≤ (cJ c i).2.2 ∧ (cJ c i).2.2 ≤ 8 - (cJ c i).2.1
  nn : c.nl.length ≤ 4
  nd : 1 ≤ fZ c c.gl.length ∧ fZ c c.gl.length ≤ 32
theorem qN {c} (h : ∀ i, i < c.gl.length → 1 ≤ (cJ c i).2.1 ∧ (cJ c i).2.1 ≤ 8 ∧ 0 ≤ (cJ c i).2.2 ∧ (cJ c i).2.2 ≤ 8 - (cJ c i).2.1) : ∀ i, i ≤ c.gl.length → i ≤ dM c i ∧ dM c i ≤ 8 * i
 | 0, _ => by simp [dM]
 | i + 1, a => by
  have := qN h i (by omega)
  have := h i (by omega)
  rw [dM]; omega
theorem ZM {c} (h : CfR c) {i} (a : i < c.gl.length) : dM c i < dM c (i + 1) := by
 have := h.gs i a
 rw [dM]; omega
theorem AT {c} (h : CfR c) {i j} (a : i ≤ j) (d : j ≤ c.gl.length) : dM c i ≤ dM c j := by
 induction j with
 | zero => obtain rfl : i = 0 := by omega
           exact QbR _
 | succ j b =>
  rcases QaC i (j + 1) with k | k
  have := b (by omega) (by omega)
  have := ZM h (i := j) (by omega)
  omega
  grind
theorem jt {c} (h : rt c = true) : CfR c := by
 obtain ⟨_, _, d, _, _, l, _, _, e⟩ := Jn h
 obtain ⟨f, g, j⟩ := w8 d
 have k : c.nl.length ≤ 4 := by
  grind [jE]
 have a : ∀ i, i < c.gl.length → 1 ≤ (cJ c i).2.1 ∧ (cJ c i).2.1 ≤ 8 ∧ 0 ≤ (cJ c i).2.2 ∧ (cJ c i).2.2 ≤ 8 - (cJ c i).2.1 := fun i b => by
  have := (j _ (QaF b)).2
  rwa [show cJ c i = c.gl[i] by simp [cJ, List.getD, b]]
 have := qN a c.gl.length (Qam _)
 exact ⟨f, g, a, k, by rw [rX]; omega, e⟩
theorem y8 {c} (h : CfR c) {f i} : (jG c f = some i ↔ i < c.gl.length ∧ f < dM c (i + 1) ∧ (0 < i → dM c i ≤ f)) := by
 rw [jG, qH, List.find?_eq_some_iff_getElem]
 simp only [Qaj]
 constructor
 rintro ⟨a, k, d, rfl, b⟩
 rw [QcF] at a ⊢
 simp only [QcM] at d
 refine ⟨d, a, fun g => ?_⟩
 have := b (k - 1) (by omega)
 simp only [QcF, Bool.not_eq_true', QcA] at this
 rw [show k - 1 + 1 = k by omega] at this
 omega
 rintro ⟨a, b, e⟩
 refine ⟨b, i, by simpa using a, by simp, fun j l => ?_⟩
 simp only [QcF, Bool.not_eq_true', QcA]
 have := AT h (i := j + 1) (j := i) (by omega) (by omega)
 have := e (by omega)
 omega
def uC : Option Nat → Int × Bool
 | some i => ((i : Int), false)
 | none => (-1, false)
def e7 (c : Cfg) (k : Nat) : Po := (List.range (cp c)).map fun g => if g < k then uC (jG c g) else (-1, false)
theorem pd c k : (e7 c k).length = cp c := by simp [e7]
theorem uD {c k f} (a : f < cp c) : d6 (e7 c k) f = if f < k then uC (jG c f) else (-1, false) := by
 grind [d6, e7]
theorem JF c : e7 c 0 = List.replicate (cp c) (-1, false) := by
 apply QaP
 simp [e7]
 grind [e7]
theorem ZN {c k i} (a : k < cp c) (h : jG c k = some i) : e7 c (k + 1) = (e7 c k).set k (i, false) := by
 apply QaP
 simp [e7]
 intro j b d
 rw [List.getElem_set]
 simp only [e7, List.getElem_map, QcF]
 by_cases e : k = j
 grind [uC]
 grind
theorem ZO {c} {k : Nat} (h : jG c k = none) : e7 c (k + 1) = e7 c k := by
 apply QaP
 simp [e7]
 grind [e7, QcF, uC]
theorem AU {c} (h : CfR c) k : PoOk (e7 c k) := ⟨by rw [pd, cp]; have := h.nd; omega, fun f a => by
 rw [pd] at a
 rw [uD a]
 split
 cases e : jG c f with
 | none => simp [uC]
 | some i =>
  have := ((y8 h).1 e).1
  have := h.g4
  simp only [uC]; omega
 simp⟩
theorem JG : ∀ {l m : List Nat}, l.Nodup → (∀ x ∈ l, x ∈ m) → l.length ≤ m.length
 | [], _, _, _ => QaG _
 | x :: l, m, a, h => by
  rw [Qbx] at a
  have c := h x (by simp)
  have := JG (l := l) (m := m.erase x) a.2 fun y d => by
   have b : y ≠ x := fun e => a.1 (by grind)
   rw [List.mem_erase_of_ne b]
   exact h y (QbI _ d)
  rw [List.length_erase_of_mem c] at this
  have := List.length_pos_of_mem c
  rw [QaK]; omega
theorem Ep {c} (h : CfR c) {i} (e : i < c.gl.length) : (cJ c i).2.1 + (cJ c i).2.2 ≤ ((bS (e7 c (cp c)) i).length) := by
 obtain ⟨a, g⟩ : ∃ a : Nat, dM c i = (a : Int) := ⟨(dM c i).toNat, by have := qN h.gs i (by omega); omega⟩
 have o := h.gs i e
 obtain ⟨n, f⟩ : ∃ n : Nat, (cJ c i).2.1 + (cJ c i).2.2 = (n : Int) := ⟨((cJ c i).2.1 + (cJ c i).2.2).toNat, by omega⟩
 have p : dM c (i + 1) = (a : Int) + n := by rw [dM, g, f]
 have q := AT h (i := i + 1) (j := c.gl.length) (by omega) (Qam _)
 have k := rX c c.gl.length
 have d : ∀ x ∈ List.range' a n, x ∈ bS (e7 c (cp c)) i := fun x l => by
  rw [List.mem_range'_1] at l
  have b : x < cp c := by rw [cp]; omega
  rw [kQ, pd, uD b, Qad b, (y8 h (i := i)).2 ⟨e, by omega, fun _ => by omega⟩]
  exact ⟨b, rfl⟩
 have m : (List.range' a n).Nodup := List.nodup_range' ..
 have := JG m d
 rw [List.length_range'] at this
 rw [f]; omega
end
section
open Go.RowKit
structure CfK (W0 : World) (c : Cfg) : Prop where
  ok : CfOk W0 c
  gc : c.gl.length ≤ c.gc
theorem Er {c} (h : CfR c) : (∀ g ∈ c.gl, 1 ≤ g.2.1 ∧ g.2.1 ≤ 8 ∧ 0 ≤ g.2.2 ∧ g.2.2 ≤ 8 - g.2.1) := fun g b => by
 obtain ⟨i, a, rfl⟩ := QbO b
 have := h.gs i a
 rwa [show cJ c i = c.gl[i] by simp [cJ, List.getD, a]] at this
def wh (c : Cfg) : Nat := if rt c then cp c else 0
theorem Es c (h : CfK W0 c) (b : CfR c) n (t : n ≤ c.gl.length) : sQ W0 70 [.agg (dy c).toArray, iQ n] R (iQ (dM c n)) R := by
 have m := h.gc
 have p := b.g4
 refine am func70 ntmps70 ?_
 refine bB fun u => ?_
 refine aa (oM mZ l6 rfl rfl (h := n) rfl (by omega)) ?_
 refine cW (fun i : Nat => i ≤ n) (fun i => [(5, iQ (dM c i)), (11, .slice c.ga n c.gc), (12, iQ n), (13, iQ i)]) (fun _ => R) (fun i => n - i) 0 ?_ ?_
 omega
 intro i v
 refine aw ?_
 refine ai (fun q => ?_) fun q => ?_
 have a : i < c.gl.length := by omega
 have d : i < n := by omega
 obtain ⟨g, o, e, k⟩ := (h.ok.g R).at_ a
 obtain ⟨x, r⟩ : ∃ x, c.gl[i] = x := ⟨_, rfl⟩
 rw [r] at k
 have l : cJ c i = x := by grind [cJ]
 have f := b.gs i a
 rw [l] at f
 have j : dM c (i + 1) = dM c i + (x.2.1 + x.2.2) := by rw [dM, l]
 have s := qN b.gs i (by omega)
 refine aa (ek mZ l6 rfl e rfl rfl d (by first | exact Qac _ | rfl)) ?_
 refine aa (dj k.weak) ?_
 refine bu fun w => ?_
 refine fh (gi l6 rfl rfl rfl rfl rfl) ?_
 rintro _ _ rfl
 refine aL (aH (aY (ae rfl (aM rfl) ?_)))
 refine ae rfl (d5 rfl mj rfl aS rfl (by first | exact Qac _ | rfl)) ?_
 refine ae rfl (co db rfl (aI rfl)) ?_
 refine ae rfl (d5 rfl mj rfl aS rfl (by first | exact Qac _ | rfl)) ?_
 refine ae rfl (co db rfl (aI rfl)) ?_
 refine ae rfl (dh rfl rfl (cj (by omega))) ?_
 refine aa (dh rfl rfl (by rw [cj (by omega)]; exact j.symm : IntKind.wrap .i64 (dM c i + (x.2.1 + x.2.2)) = dM c (i + 1))) ?_
 refine aa bW ?_
 exact bR (i + 1) (by omega)
 refine ac ?_
 obtain rfl : i = n := by omega
 exact ao
theorem JH {c f i} (a : i < c.gl.length) (h : f < dM c (i + 1)) (b : ∀ j, j < i → ¬ f < dM c (j + 1)) : jG c f = some i :=
  J0 a (Qai h) fun j d => Qal (b j d)
theorem JI {c f} (a : ∀ j, j < c.gl.length → ¬ f < dM c (j + 1)) : jG c f = none := J1 fun j b => Qal (a j b)
@[reducible] def wi (x : Int × Int) : List Value := [.int .i64 x.1, .int .i64 x.2]
theorem Et c (h : CfK W0 c) (f : Nat) : sQ W0 10 [.agg (dy c).toArray, iQ f] R (.agg (wi (lr c f)).toArray) R := by
 obtain ⟨w, o⟩ : ∃ w, rt c = w := ⟨_, rfl⟩
 have y : lr c f = if w = true ∧ 0 ≤ (f : Int) ∧ (f : Int) < fZ c c.gl.length then Eo (dM c c.gl.length) f (jG c f) else (0, 0) := by rw [lr, o]
 rw [y]
 refine am func10 ntmps10 ?_
 refine bB fun u => ?_
 refine bu fun v => ?_
 refine ah (aB call68 (Jm c h.ok)) ?_
 rw [o]
 refine cn (fun k => ?_) fun k => ?_
 · refine ar aA ?_
   refine aV (.cons (b0 v7 v9 rfl rfl) .nil) ?_
   rw [Qaa (by first | (rintro ⟨d, e, l⟩; omega) | (rintro ⟨d, e⟩; simp_all; done) | (rintro ⟨d, e, l⟩; simp_all; omega))]
   exact ao
 refine cn (fun m => ?_) fun m => ?_
 · refine ar aA ?_
   refine aV (.cons (b0 v7 v9 rfl rfl) .nil) ?_
   rw [Qaa (by first | (rintro ⟨d, e, l⟩; omega) | (rintro ⟨d, e⟩; simp_all; done) | (rintro ⟨d, e, l⟩; simp_all; omega))]
   exact ao
 have b : w = true := by simp_all
 have a := jt (o.trans b)
 have p := a.g4
 have r := a.nd
 refine ah (aB call69 (J3 c h.ok.g (Er a) a.nn a.g4)) ?_
 refine ai (fun z => ?_) fun z => ?_
 · refine ar aA ?_
   refine aV (.cons (b0 v7 v9 rfl rfl) .nil) ?_
   rw [Qaa (by first | (rintro ⟨d, e, l⟩; omega) | (rintro ⟨d, e⟩; simp_all; done) | (rintro ⟨d, e, l⟩; simp_all; omega))]
   exact ao
 have b : w = true := by simp_all
 have a := jt (o.trans b)
 have p := a.g4
 have r := a.nd
 rw [Qad ⟨b, by omega, by first | omega | (simp_all; omega)⟩]
 refine cW (fun i : Nat => i ≤ c.gl.length ∧ ∀ j, j < i → ¬ (f : Int) < dM c (j + 1)) (fun i => [(1, iQ f), (2, pQ u), (4, pQ v), (22, iQ (c.gl.length : Nat)), (23, iQ i)]) (fun _ => pt u (eA c) :: pt v (ag [iQ 0, iQ 0] 46) :: R) (fun i => c.gl.length - i) 0 ?_ ?_
 exact ⟨QaG _, fun j x => absurd x (QbE _)⟩
 intro i ⟨D, s⟩
 refine aw ?_
 refine ai (fun A => ?_) fun A => ?_
 have n : i < c.gl.length := by omega
 refine aa (dQ (i + 1)) ?_
 refine ah (aB NU (Es c h a (i + 1) n)) ?_
 refine ai (fun t => ?_) fun t => ?_
 refine ar aA ?_
 refine aV (.cons (b0 v7 v9 rfl rfl) .nil) ?_
 rw [JH n t s]
 exact ao
 refine aa bW ?_
 refine bR (i + 1) ?_
 refine ⟨by omega, fun j x => ?_⟩
 rcases QaC j i with q | q
 exact s j q
 rw [show j = i by omega]; exact t
 obtain rfl : i = c.gl.length := by omega
 rw [JI s]
 have B := qN a.gs c.gl.length (Qam _)
 have C := rX c c.gl.length
 refine ah (aB NU (Es c h a c.gl.length (Qam _))) ?_
 refine aa gz ?_
 refine ar aA ?_
 exact aV (.cons (b0 v7 v9 rfl rfl) .nil) ao
def iY (c : Cfg) (i : Int) : Int := if rt c = true ∧ 0 ≤ i ∧ i < c.nl.length then dM c c.gl.length + i else -1
theorem ZP c (h : CfK W0 c) i : sQ W0 186 [.agg (dy c).toArray, iQ i] R (iQ (iY c i)) R := by
 obtain ⟨w, f⟩ : ∃ w, rt c = w := ⟨_, rfl⟩
 have j : iY c i = if w = true ∧ 0 ≤ i ∧ i < c.nl.length then dM c c.gl.length + i else -1 := by rw [iY, f]
 rw [j]
 refine am func186 ntmps186 ?_
 refine bB fun o => ?_
 refine ah (aB call68 (Jm c h.ok)) ?_
 rw [f]
 refine cn (fun a => ?_) fun a => ?_
 refine ac ?_
 rw [Qaa (by grind)]
 exact ao
 refine cn (fun b => ?_) fun b => ?_
 refine ac ?_
 rw [Qaa (by grind)]
 exact ao
 refine ai (fun k => ?_) fun k => ?_
 refine ac ?_
 rw [Qaa (by grind)]
 exact ao
 have d : w = true := by simp_all
 have e := jt (f.trans d)
 have l := e.g4
 have m := e.nn
 have g : i < c.nl.length := by omega
 rw [Qad ⟨d, by omega, g⟩]
 have n := qN e.gs c.gl.length (Qam _)
 refine ah (aB NU (Es c h e c.gl.length (Qam _))) ?_
 refine aa bW ?_
 exact ac ao
theorem ZQ c (h : CfOk W0 c) : sQ W0 32 [.agg (dy c).toArray] R (iQ (wh c)) R := by
 refine am func32 ntmps32 ?_
 refine bB fun f => ?_
 refine ah (aB Gx (AS c h)) ?_
 refine ai (fun d => ?_) fun d => ?_
 refine ac ?_
 have a : rt c = false := by grind
 rw [wh, a]
 exact ao
 have a : rt c = true := by grind
 have b := jt a
 refine ah (aB zx (we c h.g (Er b) b.nn b.g4)) ?_
 refine ac ?_
 have e : ((wh c : Nat) : Int) = fZ c c.gl.length := by
  have := b.nd
  rw [wh, Qad a, cp]; omega
 rw [e]
 exact ao
theorem ZR c (h : CfK W0 c) (f : Nat) (m : rt c = true) (z : f < fZ c c.gl.length) : sQ W0 37 [.agg (dy c).toArray, iQ f] R (.agg (wi (lr c f)).toArray) R := by
 have e := jt m
 have A := e.g4
 have B := e.nd
 have C := rX c c.gl.length
 rw [lr, Qad ⟨m, by omega, z⟩]
 refine am func37 ntmps37 ?_
 refine bB fun n => ?_
 refine bu fun u => ?_
 refine ah (aB Gx (AS c h.ok)) ?_
 rw [m]
 refine cn (fun d => ?_) fun d => ?_
 exact absurd d (by decide)
 refine aC rfl (fun v => ?_) fun v => ?_
 first | exact absurd v (by decide) | (exfalso; omega)
 refine aw ?_
 refine cW (fun i : Nat => i ≤ c.gl.length ∧ ∀ j, j < i → ¬ (f : Int) < dM c (j + 1)) (fun i => [(1, iQ f), (2, pQ n), (4, pQ u), (5, iQ (dM c i)), (6, iQ i)]) (fun _ => pt n (eA c) :: pt u (ag [iQ 0, iQ 0] 46) :: R) (fun i => c.gl.length - i) 0 ?_ ?_
 grind
 intro i ⟨I, p⟩
 refine aw ?_
 refine ai (fun D => ?_) fun D => ?_
 have a : i < c.gl.length := by omega
 obtain ⟨g, o, l, w⟩ := (h.ok.g []).at_ a
 obtain ⟨x, E⟩ : ∃ x, c.gl[i] = x := ⟨_, rfl⟩
 rw [E] at w
 have y : cJ c i = x := by grind [cJ]
 have r := e.gs i a
 rw [y] at r
 have F : dM c (i + 1) = dM c i + (x.2.1 + x.2.2) := by rw [dM, y]
 have G := qN e.gs i (by omega)
 refine fj [(n, 0, dy c), (g, o + i * 3, i9 x)] 16 mixed rfl (bL (bj w.weak aW)) (fun b => ?_)
 refine aj 0 4 b ?_
 refine az 4 b (ek mZ l6 rfl l rfl rfl a (by first | exact Qac _ | rfl)) ?_
 refine aj 5 1 b ?_
 refine az 6 b (aE (km (k := 1) (j := 1) rfl rfl)) ?_
 refine az 7 b bW ?_
 refine aj 8 3 b ?_
 refine az 11 b (ek mZ l6 rfl l rfl rfl a (by first | exact Qac _ | rfl)) ?_
 refine aj 12 1 b ?_
 refine az 13 b (aE (km (k := 1) (j := 2) rfl rfl)) ?_
 refine az 14 b (Hr (dM c (i + 1))) ?_
 refine aj 15 1 b ?_
 refine aJ ?_
 refine ai (fun s => ?_) fun s => ?_
 refine ar aA ?_
 refine aV (.cons (b0 v7 v9 rfl rfl) .nil) ?_
 rw [JH a s p]
 exact ao
 refine aa bW ?_
 refine bR (i + 1) ?_
 refine ⟨by omega, fun j J => ?_⟩
 rcases QaC j i with q | q
 exact p j q
 rw [show j = i by omega]; exact s
 obtain rfl : i = c.gl.length := by omega
 rw [JI p]
 have H := qN e.gs c.gl.length (Qam _)
 refine aa gz ?_
 refine aC rfl (fun t => ?_) fun t => ?_
 refine au 4 ?_
 refine aa gz ?_
 refine ar aA ?_
 exact aV (.cons (b0 v7 v9 rfl rfl) .nil) ao
 omega
theorem ZS c (h : CfOk W0 c) (f : rt c = true) (i : Int) (k : 0 ≤ i) (l : i < c.nl.length) : sQ W0 110 [.agg (dy c).toArray, iQ i] R (iQ (iY c i)) R := by
 have e := jt f
 have m := e.nd
 have n := e.nn
 have o := rX c c.gl.length
 rw [iY, Qad ⟨f, k, l⟩]
 refine am func110 ntmps110 ?_
 refine bB fun p => ?_
 refine ah (aB Gx (AS c h)) ?_
 rw [f]
 refine cn (fun a => ?_) fun a => ?_
 exact absurd a (by decide)
 refine dk rfl rfl rfl (fun b => ?_) fun b => ?_
 first | exact absurd b (by decide) | (exfalso; omega)
 refine aw ?_
 refine aC rfl (fun j => ?_) fun j => ?_
 first | exact absurd j (by decide) | (exfalso; omega)
 refine aw ?_
 refine bz [p] 9 fun d => ?_
 refine aj 0 1 d ?_
 refine aj 2 3 d ?_
 refine aj 6 1 d ?_
 refine bY 1 (aB zx (we c h.g (Er e) e.nn e.g4)) fun d => ?_
 refine az 5 d gz ?_
 refine az 7 d (Hr (dM c c.gl.length + i)) ?_
 refine aj 8 1 d ?_
 refine aJ ?_
 exact ac ao
abbrev dF (rl : List Nat) (pc : Nat) : Obj := ag (rl.map wV ++ [.bool true, wV pc]) 304
theorem a9w {a : List Nat} {pc} (h : a.length = 16) : (a.map wV ++ [Value.bool true, wV pc]).length = 18 := by simp [h]
theorem ZT {a : List Nat} {pc} (h : a.length = 16) : ((a.map wV ++ [Value.bool true, wV pc]).drop 0).take 16 = a.map wV := by
 grind
theorem JJ {a : List Nat} {pc} (h : a.length = 16) : (a.map wV ++ [Value.bool true, wV pc])[16]? = some (.bool true) := by
 grind
theorem ZU {a : List Nat} {pc} (h : a.length = 16) : (a.map wV ++ [Value.bool true, wV pc])[17]? = some (wV pc) := by
 grind
theorem ZV {a : List Nat} {pc q} (h : a.length = 16) : (a.map wV ++ [Value.bool true, wV pc]).set 17 (wV q) = a.map wV ++ [.bool true, wV q] := by
 simp_all
theorem ZW {a : List Nat} {pc i x} (h : a.length = 16) (b : i < 16) : (a.map wV ++ [Value.bool true, wV pc]).set (i * 1) (wV x) = (a.set i x).map wV ++ [.bool true, wV pc] := by
 simp_all
theorem Eu (a : List Nat) : fi (a.map wV) = true := by simp [fi, wV, Value.oneCell']
section
variable {P : Program} {S : World → Prop} {N : FSz} {e : bi} {t : TypeId} {l : List Value} {v : Value}
theorem ZX {E n i : Nat} {y} (h : P.underlying t = some (.array n E)) (j : ∀ w, (sizeOf E).run P w = .ok 1 w) (k : ∀ w, (zeroValue t).run P w = .ok (.agg l.toArray) w)
    (m : ev e y = some v) (o : v.oneCell' = true) (u : i < l.length) : bT P S N e (.build t #[(i, y)]) (.agg (l.set i v).toArray) := fun a w _ _ _ _ _ p _ => by
 have q : Instr.build t ((#[(i, y)] : Array (Nat × Operand)).map fun (i, x) => (i, a.eval x)) = (do
     let zero := (← zeroValue t).cells
     match ← underlying t with
     | .struct c =>
       let d ← c.mapM sJ
       let some b := Instr.fill (d[·]?) zero ((#[(i, y)] : Array (Nat × Operand)).map fun (i, x) => (i, a.eval x)).toList | stuck "build: no such field, or a part of the wrong size"
       pure (.agg b)
     | .array _ g =>
       let f ← sizeOf g
       let some b := Instr.fill (fun i => some (i * f, f)) zero ((#[(i, y)] : Array (Nat × Operand)).map fun (i, x) => (i, a.eval x)).toList | stuck "build: a part of the wrong size"
       pure (.agg b)
     | _ => stuck "build: struct or array type expected") := rfl
 have r : ¬ (i + 1 > l.length) := by omega
 have s : Instr.fill (fun i => some (i * 1, 1)) l.toArray [(i, a.eval y)] = some (l.set i v).toArray := by
  simp only [Instr.fill, p.eval m, u7 o, Qaz]
  simp [r]
 simp only [execOp, q, Sem.run_bind, k, eW h, j, Result.andThen_ok, Value.cells, Sem.run_pure, Qci, QaM, Qcg]
 rw [s]; rfl
end
theorem ZY : sP W0 163 [] R (fun v B => ∃ b, v = pQ b ∧ B = pt b (dF (List.replicate 16 0) 0) :: R) := by
 refine am func163 ntmps163 ?_
 refine aa (fT a7F zeroValue304 (aP Nj (aP aX fR)) (kh rfl Nj rfl rfl (Qab rfl) rfl fQ)) ?_
 refine bB fun a => ?_
 refine ac ?_
 exact ⟨_, ⟨_, rfl, rfl⟩, ent_refl⟩
theorem JK b rl pc (c : rl.length = 16) : sQ W0 81 [pQ b] (pt b (dF rl pc) :: R) (.agg (rl.map wV).toArray) (pt b (dF rl pc) :: R) := by
 refine am func81 ntmps81 ?_
 refine eH (di NG) fun d => ?_
 refine aw ?_
 refine aC rfl (fun a => ?_) fun a => ?_
 cases a
 refine aw ?_
 refine ae rfl (iS Cs rq rfl (cQ (b := b) (ZT c) (by grind)) (by grind)) ?_
 refine ar (gi rq rfl rfl (by grind) (Eu rl) rfl) ?_
 exact aV (.cons (b0 Cs rq rfl (by grind)) .nil) ao
theorem qP b rl pc (c : rl.length = 16) : sQ W0 82 [pQ b] (pt b (dF rl pc) :: R) (wV pc) (pt b (dF rl pc) :: R) := by
 refine jz 12 func82 ntmps82 ?_
 refine aC rfl (fun a => ?_) fun a => ?_
 cases a
 refine aw ?_
 refine jS 4 (aE (aI (ZU c))) ?_
 exact ac ao
theorem y9 b rl pc q (c : rl.length = 16) : sQ W0 132 [pQ b, wV q] (pt b (dF rl pc) :: R) (iQ 0) (pt b (dF rl q) :: R) := by
 refine am func132 ntmps132 ?_
 refine dk rfl rfl rfl (fun a => ?_) fun a => ?_
 cases a
 refine aw ?_
 refine jS 5 (aE (aI (JJ c))) ?_
 refine jT ?_
 refine iB 8 (dt (by grind) (ZV c)) ?_
 exact ac ao
def gK (i : Int) : Bool := decide (0 ≤ i ∧ i < 16)
theorem AV b rl pc (a : rl.length = 16) i : sQ W0 195 [pQ b, iQ i] (pt b (dF rl pc) :: R) (iQ (if gK i then 0 else 1)) (pt b (dF rl pc) :: R) := by
 refine am func195 ntmps195 ?_
 refine jS 4 (aE (aI (JJ a))) ?_
 refine jT ?_
 refine aC rfl (fun c => ?_) fun c => ?_
 refine jk ?_
 refine aH (zS rfl (aO (aY (ae rfl (bC rfl) (aL (aH (dE (mn (iP (ac ?_))))))))))
 rw [Qaa (by grind [gK])]
 exact ao
 refine aw ?_
 refine ai (fun d => ?_) fun d => ?_
 refine ac ?_
 rw [Qaa (by grind [gK])]
 exact ao
 refine ac ?_
 rw [Qad (by grind [gK])]
 exact ao
theorem ZZ b rl (a i x : Nat) (e : rl.length = 16) (c : i < 16) (f : i ≠ 0) : sQ W0 196 [pQ b, iQ i, wV x] (pt b (dF rl a) :: R) (.tuple #[]) (pt b (dF (rl.set i x) a) :: R) := by
 refine am func196 ntmps196 ?_
 refine aC rfl (fun d => ?_) fun d => ?_
 refine au 6 ?_
 refine aa (eG c) ?_
 refine ar (dt (by grind) (ZW e c)) ?_
 refine bU (.inr rfl) .nil ?_
 exact ao
 simp at d; omega
theorem Ev W0 R b rl (c i x : Nat) (d : rl.length = 16) (g : i < 16) (h : i ≠ 0) : sQ W0 131 [pQ b, iQ i, wV x] (pt b (dF rl c) :: R) (iQ 0) (pt b (dF (rl.set i x) c) :: R) := by
 have a : gK i = true := by grind [gK]
 refine jz 12 NV ntmps131 ?_
 refine aC rfl (fun e => ?_) fun e => ?_
 cases e
 refine aw ?_
 refine eh 10 (ap Gy (AV b rl c d i)) ?_
 refine ai (fun f => ?_) fun f => ?_
 refine ah (ap call196 (ZZ b rl c i x d g h)) ?_
 refine ac ?_
 rw [a]
 exact ao
 exact absurd (by rw [a]; rfl) f
abbrev JL (id : Nat) : Obj := ag ([wV 0, wV 0, wV 0, wV 0, wV 0, wV 4, wV 0] ++ [.int .i64 id, .bool true]) 306
theorem a0a : sQ W0 244 [] R (.agg #[wV 0, wV 0, wV 0, wV 0, wV 0, wV 4, wV 0]) R := by
 refine am func244 ntmps244 ?_
 refine bu fun a => ?_
 refine aa (ZX iO aX Gg rfl rfl (by decide)) ?_
 refine ar aA ?_
 exact aV (.cons (b0 NW wP rfl rfl) .nil) ao
theorem a0b (i : Nat) (d : i < 4) : sP W0 161 [iQ i] R (fun v B => ∃ b, v = .tuple #[pQ b, iQ 0] ∧ B = pt b (JL i) :: R) := by
 refine am func161 ntmps161 ?_
 refine dk rfl rfl rfl (fun a => ?_) fun a => ?_
 omega
 refine aw ?_
 refine aC rfl (fun c => ?_) fun c => ?_
 omega
 refine aw ?_
 refine ah (aB call244 (a0a)) ?_
 refine aa (fT a7G zeroValue306 (aP wP (aP aS (aP iN fR))) (kh rfl wP rfl rfl (Qab rfl) SetRL.eq (cu rfl aS rfl rfl (Qab rfl) SetL.eq (cu rfl iN rfl rfl (Qab rfl) SetL.eq fQ)))) ?_
 refine bB fun e => ?_
 refine ax ?_
 exact ⟨_, ⟨_, rfl, rfl⟩, ent_refl⟩
abbrev uE : Obj := ag ([.bool false, .bool false, .int .i64 0, .int .i64 0, .bool false, .bool false, .int .i64 0, .int .i64 0, .bool false, .bool false, .int .i64 0, .int .i64 0, .bool false, .bool false, .int .i64 0, .int .i64 0, .bool false, .bool false, .int .i64 0, .int .i64 0, .bool false, .bool false, .int .i64 0, .int .i64 0, .bool false, .bool false, .int .i64 0, .int .i64 0, .bool false, .bool false, .int .i64 0, .int .i64 0, .slice none 0 0, .int .i64 0, .bool false].set 34 (.bool true)) 177
theorem a0c : sP W0 164 [] R (fun v B => ∃ b, v = pQ b ∧ B = pt b uE :: R) := by
 refine am func164 ntmps164 ?_
 refine bB fun a => ?_
 refine ac ?_
 exact ⟨_, ⟨_, rfl, rfl⟩, ent_refl⟩
abbrev uF : Obj := ag [ej, .bool false, .bool false, .bool false, .bool false, .int .i64 0, .bool true] 183
theorem a0d : sP W0 165 [] R (fun v B => ∃ b, v = pQ b ∧ B = pt b uF :: R) := by
 refine am func165 ntmps165 ?_
 refine bB fun a => ?_
 refine ac ?_
 exact ⟨_, ⟨_, rfl, rfl⟩, ent_refl⟩
abbrev td : Obj := ag [ej, .bool true] 325
theorem a0e : sP W0 107 [] R (fun v B => ∃ b, v = pQ b ∧ B = pt b td :: R) := by
 refine am func107 ntmps107 ?_
 refine bB fun a => ?_
 refine ac ?_
 exact ⟨_, ⟨_, rfl, rfl⟩, ent_refl⟩
structure Evt where
  k : Int
  clock : Int
  code : Nat
  val : Nat
  pc : Nat
  rl : List Nat
@[reducible] def ma (e : Evt) : List Value := [.int .i64 e.k, .int .i64 e.clock, wV e.code, wV e.val, wV e.pc] ++ (List.range 16).map fun i => wV (e.rl.getD i 0)
theorem a0f e : (ma e).length = 21 := by simp [ma]
theorem JM {e} (h : e.rl.length = 16) : ma e = [iQ e.k, iQ e.clock, wV e.code, wV e.val, wV e.pc] ++ e.rl.map wV := by
 unfold ma; congr 1
 apply QaP
 simp [h]
 grind
def gB (b : Nat) (es : List Evt) : HP := chk (fun C => ∃ a c, C = [pt b (ag [.slice a es.length c, .bool true] 163), osl 300 21 (.slice a es.length c) (es.flatMap ma)])
section
variable {P : Program} {W0 : World} {N : FSz} {K : Act → World → Prop} {e : bi} {A B R R1 R2 : List HP} {b n : Nat} {es : List Evt} {f : FuncId} {args : List Value} {Post : Value → List HP → Prop}
theorem Ew [f : Tk gB b A es R] (h : ∀ a c, av W0 N K e (pt b (ag [.slice a es.length c, .bool true] 163) :: osl 300 21 (.slice a es.length c) (es.flatMap ma) :: R)) : av W0 N K e A :=
  fV (r := gB) (b := b) (ni fun C d => by obtain ⟨a, c, rfl⟩ := d; exact h a c)
theorem AW {a c xs} [d : Tk pt b A (ag [.slice a n c, .bool true] 163) R1] [e : Tk (osl 300 21) (.slice a n c) R1 xs R2] (f : n = es.length) (g : xs = es.flatMap ma) [k : Ent R2 B] : Ent A (gB b es :: B) := by
 subst f; subst g
 exact (Ent.ofPerm (d.perm.trans (e.perm.cons _))).trans ((Ent.cons (Ent.cons k)).trans (fK (R := B) (C := [_, _]) ⟨a, c, rfl⟩))
end
theorem a0g : sP W0 108 [] R (fun v B => ∃ b, v = pQ b ∧ B = gB b [] :: R) := by
 refine am func108 ntmps108 ?_
 refine bB fun a => ?_
 refine ac ?_
 exact ⟨_, ⟨_, rfl, rfl⟩, (Ent.cons (fm (E := 300) (sz := 21) (A := R) (B := R))).trans (fK (R := R) (C := [_, _]) ⟨none, 0, rfl⟩)⟩
theorem JN b es : sQ W0 74 [pQ b] (gB b es :: R) (.bool false) (gB b es :: R) := by
 refine am func74 ntmps74 ?_
 refine Ew (b := b) fun a c => ?_
 refine aw ?_
 refine dk rfl rfl rfl (fun d => ?_) fun d => ?_
 cases d
 refine aw ?_
 refine ac ?_
 exact ⟨_, ⟨rfl, rfl⟩, AW rfl rfl⟩
theorem a0h W0 R b es x (m : es.length < 4096) : sQ W0 167 [pQ b, .agg (ma x).toArray] (gB b es :: R) (iQ 0) (gB b (es ++ [x]) :: R) := by
 have g : es.flatMap ma ++ [ma x].flatten = (es ++ [x]).flatMap ma := by simp
 refine am func167 ntmps167 ?_
 refine eH (kg rfl) fun i => ?_
 refine ae rfl (bC rfl) (aL (aH (aO (mm (aO (aY (ae rfl (aM rfl) (aF rfl (ir call74 rfl (JN b es)) ?_))))))))
 rintro _ n ⟨rfl, e⟩
 obtain rfl := e.symm
 refine ae rfl (bC rfl) (aL (aH ?_))
 refine aC rfl (fun h => ?_) fun h => ?_
 exact absurd h (by decide)
 refine aO ?_
 refine Ew (b := b) fun a c => ?_
 refine aY (ae rfl (aM rfl) (ae rfl (kL rfl) ?_))
 refine ae rfl (d5 rfl a7x rfl FZ rfl (by first | exact Qac _ | rfl)) ?_
 refine ae rfl (co N5 rfl (aI rfl)) ?_
 refine ae rfl (CR pA rfl) (ae rfl (vl rfl rfl) (ae rfl (bC rfl) (aL (aH ?_))))
 refine aC rfl (fun f => ?_) fun f => ?_
 omega
 refine jk (oI (aH (aO ?_)))
 refine bz [i] 11 fun d => ?_
 refine aj 0 4 d ?_
 refine az 5 d (iS isAgg300 zy rfl (jR (k := 0) rfl) (a0f x)) ?_
 refine eD (is := [4, 6]) (by kernel_rfl) rfl ⟨?_, ?_, trivial⟩
 refine cX (dP (aE (aI rfl))) ?_; clear d
 rintro _ _ ⟨rfl, rfl⟩
 refine ⟨aT, fun d => ?_⟩
 refine kt 6 (by kernel_rfl) rfl rfl (iA pA zy zA rfl (fp rfl rfl hJ) rfl (by decide) (by decide) (by decide)) rfl ?_; clear d
 rintro _ _ ⟨j, rfl, rfl⟩
 refine ⟨aT, fun d => ?_⟩
 refine bQ 7 (eE (sz := 21) (by_ := 96) (info := Tryz.t300) pA (by kernel_rfl) rfl rfl rfl rfl (by decide) rfl rfl en rfl rfl (by simp only [maxLen]; omega) (by omega)) ?_; clear d
 rintro _ _ ⟨l, f, rfl, rfl⟩
 refine ⟨aT, fun d => ?_⟩
 refine aj 8 2 d ?_
 refine cm 10 dX fun d => ?_
 refine hQ ?_
 refine aH (aO (aY (ae rfl (bC rfl) (aL (aH (dE (ac ?_)))))))
 exact ⟨_, ⟨rfl, rfl⟩, AW (es := es ++ [x]) (by simp) g⟩
 skip
 refine nU rfl rfl (iA pA zy zA rfl (fp rfl rfl hJ) rfl (by decide) (by decide) (by decide)) rfl ?_; clear d
 rintro _ _ ⟨j, rfl, rfl⟩
 refine ⟨aT, fun d => ?_⟩
 refine bY 4 (dP (aE (aI rfl))) fun d => ?_
 refine bQ 7 (eE (sz := 21) (by_ := 96) (info := Tryz.t300) pA (by kernel_rfl) rfl rfl rfl rfl (by decide) rfl rfl en rfl rfl (by simp only [maxLen]; omega) (by omega)) ?_; clear d
 rintro _ _ ⟨l, f, rfl, rfl⟩
 refine ⟨aT, fun d => ?_⟩
 refine aj 8 2 d ?_
 refine cm 10 dX fun d => ?_
 refine aJ ?_
 refine ac ?_
 exact ⟨_, ⟨rfl, rfl⟩, AW (es := es ++ [x]) (by simp) g⟩
end
section
structure It where
  kr : Int
  kp : Int
  ep : Int
  ef : Int
  er : Int
  u : Int
deriving DecidableEq
instance : Inhabited It := ⟨⟨0, 0, 0, 0, 0, 0⟩⟩
def It.key (x : It) : Int × Int := (x.kr, x.kp)
def It.ent (x : It) : Int × Int × Int := (x.ep, x.ef, x.er)
def bO (x : It) : List Value := [.int .i64 x.kr, .int .i64 x.kp, .int .i64 x.ep, .int .i64 x.ef, .int .i64 x.er, .int .i64 x.u]
theorem iZ x : (bO x).length = 6 := rfl
def us (l : List It) (i : Nat) : Int := (l.getD i default).u
theorem us_eq {l i} h : us l i = l[i].u := by simp [us, List.getD, h]
def swapL (l : List It) (i j : Nat) : List It := (l.set i (l.getD j default)).set j (l.getD i default)
theorem xJ l i j : (swapL l i j).length = l.length := by simp [swapL]
theorem rS {l i j} (a : i < l.length) (b : j < l.length) x : (swapL l i j).getD x default = if x = i then l.getD j default else if x = j then l.getD i default else l.getD x default := by
 grind [swapL]
theorem kP {l i j} (a : i < l.length) (b : j < l.length) x : us (swapL l i j) x = if x = i then us l j else if x = j then us l i else us l x := by
 grind [us, rS]
theorem DT {α : Type} : ∀ (l : List α) (i j : Nat) (a : i < l.length) (b : j < l.length), ((l.set i l[j]).set j l[i]).Perm l := by
 grind [List.set_set_perm]
theorem lI {l i j} (a : i < l.length) (b : j < l.length) : (swapL l i j).Perm l := by
 grind [DT, swapL]
def Heap (l : List It) (n : Nat) : Prop := ∀ c, c < n → 0 < c → us l ((c - 1) / 2) ≤ us l c
def jC (l : List It) (i n : Nat) : Prop := ∀ c, c < n → 0 < c → (c ≠ i → (c - 1) / 2 ≠ i → us l ((c - 1) / 2) ≤ us l c) ∧ ((c - 1) / 2 = i → 0 < i → us l ((i - 1) / 2) ≤ us l c)
def Up (l : List It) (j n : Nat) : Prop := ∀ c, c < n → 0 < c → (c ≠ j → us l ((c - 1) / 2) ≤ us l c) ∧ ((c - 1) / 2 = j → 0 < j → us l ((j - 1) / 2) ≤ us l c)
theorem DU {l i j n} (h : jC l i n) (t : n ≤ l.length) (p : j < n) (g : (j - 1) / 2 = i) (q : 0 < j) (r : us l j < us l i)
    (k : ∀ c, c < n → 0 < c → (c - 1) / 2 = i → us l j ≤ us l c) : jC (swapL l i j) j n ∧ us (swapL l i j) ((j - 1) / 2) ≤ us (swapL l i j) j := by
 have s : i < j := by omega
 have d := kP (l := l) (i := i) (j := j) (by omega) (by omega)
 refine ⟨fun c a b => ⟨fun e m => ?_, fun e m => ?_⟩, ?_⟩
 rw [d, d]
 by_cases f : c = i
 subst f
 have := (h j p q).2 g (by omega)
 rw [Qaa (by omega), Qaa (by omega), Qad rfl]; exact this
 by_cases o : (c - 1) / 2 = i
 grind
 rw [Qaa o, Qaa m, Qaa f, Qaa e]; exact (h c a b).1 f o
 rw [g, d, d, Qad rfl, Qaa (by omega), Qaa (by omega)]
 rw [← e]; exact (h c a b).1 (by omega) (by omega)
 grind
theorem xK {l i n} (h : jC l i n) (a : ∀ c, c < n → 0 < c → (c - 1) / 2 = i → us l i ≤ us l c) (g : 0 < i → us l ((i - 1) / 2) ≤ us l i) : Heap l n := fun c b d => by
 by_cases e : (c - 1) / 2 = i
 grind
 by_cases f : c = i
 grind
 exact (h c b d).1 f e
theorem Av {l i n} (h : jC l i n) (a : ∀ c, c < n → 0 < c → (c - 1) / 2 = i → us l i ≤ us l c) : Up l i n := fun c b d => ⟨fun e => by
 by_cases f : (c - 1) / 2 = i
 grind
 exact (h c b d).1 e f, (h c b d).2⟩
theorem DV {l j n} (h : Up l j n) (q : n ≤ l.length) (r : j < n) (m : 0 < j) (o : us l j < us l ((j - 1) / 2)) : Up (swapL l ((j - 1) / 2) j) ((j - 1) / 2) n := by
 have d := kP (l := l) (i := (j - 1) / 2) (j := j) (by omega) (by omega)
 intro c e a
 refine ⟨fun f => ?_, fun f p => ?_⟩
 rw [d, d]
 by_cases b : c = j
 omega
 by_cases g : (c - 1) / 2 = (j - 1) / 2
 rw [Qad g, Qaa (by omega), Qaa b]
 have := (h c e a).1 b; rw [g] at this; omega
 by_cases k : (c - 1) / 2 = j
 rw [Qaa g, Qad k, Qaa f, Qaa b]; exact (h c e a).2 k m
 rw [Qaa g, Qaa k, Qaa f, Qaa b]; exact (h c e a).1 b
 rw [d, d, Qaa (by omega), Qaa (by omega)]
 have s := (h ((j - 1) / 2) (by omega) p).1 (by omega)
 by_cases b : c = j
 omega
 rw [Qaa (by omega), Qaa b]
 have := (h c e a).1 b; rw [f] at this; omega
theorem xL {l j n} (h : Up l j n) (d : 0 < j → us l ((j - 1) / 2) ≤ us l j) : Heap l n := fun c a b => by
 by_cases e : c = j
 grind
 exact (h c a b).1 e
theorem heap_min {l n} (h : Heap l n) : ∀ c, c < n → us l 0 ≤ us l c := by
 intro c
 induction c using Nat.strongRecOn with
 | _ c a =>
  intro b
  by_cases d : c = 0
  grind
  have := h c b (by omega)
  have := a ((c - 1) / 2) (by omega) (by omega)
  omega
theorem DW {l i x n} (h : Heap l n) (j : i < l.length) : jC (l.set i x) i n := fun c d f => by
 have e : ∀ y, y ≠ i → us (l.set i x) y = us l y := fun y k => by
  unfold us; simp only [Qas]; rw [QaW (by omega)]
 refine ⟨fun a b => ?_, fun a b => ?_⟩
 rw [e _ a, e _ b]; exact h c d f
 rw [e _ (by omega), e _ (by omega)]
 have g := h c d f
 have m := h i (by omega) b
 rw [a] at g; omega
theorem xM {l l' n} (h : ∀ i, i < n → l.getD i default = l'.getD i default) {i} (a : i < n) : us l i = us l' i := by unfold us; rw [h i a]
theorem DY {l l' n} (h : ∀ i, i < n → l.getD i default = l'.getD i default) (k : Heap l n) : Heap l' n := fun c a b => by
 rw [← xM h a, ← xM h (i := (c - 1) / 2) (by omega)]; exact k c a b
theorem DZ {l n m} (h : Heap l n) (k : m ≤ n) : Heap l m := fun c b a => h c (by omega) a
structure Down (its l : List It) (i0 n : Nat) (moved : Bool) : Prop where
  perm : l.Perm its
  tail : ∀ x, n ≤ x → l.getD x default = its.getD x default
  no : moved = false → l = its ∧ ∀ c, c < n → 0 < c → (c - 1) / 2 = i0 → us its i0 ≤ us its c
  yes : moved = true → Heap l n
theorem xN {l its i i0 n} (b : l.Perm its) (j : i0 ≤ i) (d : jC l i n) (e : ∀ x, n ≤ x → l.getD x default = its.getD x default) (f : i = i0 → l = its)
    (g : i0 < i → us l ((i - 1) / 2) ≤ us l i) (a : ∀ c, c < n → 0 < c → (c - 1) / 2 = i → us l i ≤ us l c) : Down its l i0 n (decide (i0 < i)) :=
  ⟨b, e, fun h => by
 have : i = i0 := by grind
 subst this
 obtain rfl := f rfl
 exact ⟨rfl, a⟩, fun h => by
 have : i0 < i := by simpa using h
 exact xK d a fun _ => g this⟩
end
section
open Go.RowKit
def aU (b : Nat) (x : List It × List Value) : HP := chk (fun C => ∃ a c, C = [pt b (ag (.slice a x.1.length c :: x.2) 289), osl 282 6 (.slice a x.1.length c) (x.1.flatMap bO)])
section
variable {P : Program} {W0 : World} {R A : List HP} {b : Nat} {its : List It} {tl : List Value} {f : FuncId} {args : List Value} {Post : Value → List HP → Prop}
theorem wj (h : ∀ a c, bF P W0 f args (pt b (ag (.slice a its.length c :: tl) 289) :: osl 282 6 (.slice a its.length c) (its.flatMap bO) :: R) Post) : bF P W0 f args (aU b (its, tl) :: R) Post :=
  qk fun C d => by obtain ⟨a, c, rfl⟩ := d; exact h a c
theorem rY {a c n R1 R2 B} [d : Tk pt b A (ag (.slice a n c :: tl) 289) R1] [e : Tk (osl 282 6) (.slice a n c) R1 (its.flatMap bO) R2] (f : n = its.length) [k : Ent R2 B] : Ent A (aU b (its, tl) :: B) := by
 subst f
 exact (Ent.ofPerm (d.perm.trans (e.perm.cons _))).trans ((Ent.cons (Ent.cons k)).trans (fK (R := B) (C := [_, _]) ⟨a, c, rfl⟩))
theorem Ey (j : its ≠ []) (h : ∀ g c d, its.length ≤ c → c ≤ maxLen → (its.flatMap bO ++ d).length = c * 6 → bF P W0 f args (pt b (ag (.slice (some ⟨g, 0, none⟩) its.length c :: tl) 289) :: pt g (ag (its.flatMap bO ++ d) 282) :: R) Post) : bF P W0 f args (aU b (its, tl) :: R) Post :=
  wj fun a c => nj (List.Perm.swap _ _ _) (xk (fun i e => by
      have := cF iZ its
      rw [e] at this
      exact absurd (QaE (by grind)) j)
    (fun g n k d i e l o m => by
      cases i
      exact nj (List.Perm.swap _ _ _) (h g _ d e l m)))
theorem AX {N K e} [f : Tk aU b A (its, tl) R] (h : ∀ a c, av W0 N K e (pt b (ag (.slice a its.length c :: tl) 289) :: osl 282 6 (.slice a its.length c) (its.flatMap bO) :: R)) : av W0 N K e A :=
  fV (r := aU) (b := b) (ni fun C d => by obtain ⟨a, c, rfl⟩ := d; exact h a c)
theorem Ez {N K e} [o : Tk aU b A (its, tl) R] (j : its ≠ []) (h : ∀ g c d, its.length ≤ c → c ≤ maxLen → (its.flatMap bO ++ d).length = c * 6 → av W0 N K e (pt b (ag (.slice (some ⟨g, 0, none⟩) its.length c :: tl) 289) :: pt g (ag (its.flatMap bO ++ d) 282) :: R)) : av W0 N K e A :=
  AX (b := b) fun a c => qf (List.Perm.swap _ _ _) (ku (fun i f => by
      have := cF iZ its
      rw [f] at this
      exact absurd (QaE (by grind)) j)
    (fun g n k d i f l p m => by
      cases i
      exact qf (List.Perm.swap _ _ _) (h g _ d f l m)))
theorem JO [h : Tk aU b A (its, tl) R] : bE (aQ W0 A) b 1 tl := fun i v j w (e : Own W0 w A) => by
 obtain ⟨C, ⟨a, c, rfl⟩, d⟩ := (e.tk (r := aU) (b := b)).chk
 have f : Own W0 w (pt b (ag (.slice a its.length c :: tl) 289) :: (osl 282 6 (.slice a its.length c) (its.flatMap bO) :: R)) := d
 have g : kf (aQ W0 (pt b (ag (.slice a its.length c :: tl) 289) :: (osl 282 6 (.slice a its.length c) (its.flatMap bO) :: R))) b (1 + i) v := aI (by grind)
 exact g w f
theorem te {g c n xs sp R1 R2 B} [a : Tk pt b A (ag (.slice (some ⟨g, 0, none⟩) n c :: tl) 289) R1] [l : Tk pt g R1 (ag (xs ++ sp) 282) R2] (d : xs = its.flatMap bO) (f : n = its.length) (h : n ≤ c) (i : c ≤ maxLen) (j : (xs ++ sp).length = c * 6) [k : Ent R2 B] : Ent A (aU b (its, tl) :: B) := by
 subst f
 subst d
 have e : Ent R1 (osl 282 6 (.slice (some ⟨g, 0, none⟩) its.length c) (its.flatMap bO) :: B) := fk h i (cF iZ its) j
 exact (Ent.ofPerm a.perm).trans ((Ent.cons e).trans (fK (R := B) (C := [_, _]) ⟨_, c, rfl⟩))
theorem JP {N K e g c n xs sp R1 R2} [j : Tk pt b A (ag (.slice (some ⟨g, 0, none⟩) n c :: tl) 289) R1] [l : Tk pt g R1 (ag (xs ++ sp) 282) R2] (a : xs = its.flatMap bO) (d : n = its.length) (f : n ≤ c) (h : c ≤ maxLen) (i : (xs ++ sp).length = c * 6)
    (k : av W0 N K e (aU b (its, tl) :: R2)) : av W0 N K e A := eK (te (b := b) a d f h i) k
end
theorem ya (a : List It) sp i j (b : i < a.length) (c : j < 6) : (a.flatMap bO ++ sp)[i * 6 + j]? = (bO (a.getD i default))[j]? := by
 rw [mq iZ a i j sp b c]; simp [List.getD, b]
theorem lJ (a : List It) sp i (b : i < a.length) : ((a.flatMap bO ++ sp).drop (i * 6)).take 6 = bO (a.getD i default) := by
 rw [rE iZ a i sp b]; simp [List.getD, b]
theorem qQ (a : List It) sp i x (b : i < a.length) : d7 (a.flatMap bO ++ sp) (i * 6) (bO x) = (a.set i x).flatMap bO ++ sp := vy iZ a i x sp b
theorem a0i (a : List It) sp i (b : i < a.length) : ((a.flatMap bO ++ sp).drop (i * 6 + 2)).take 3 = [iQ (a.getD i default).ep, iQ (a.getD i default).ef, iQ (a.getD i default).er] := by
 have := Qah (fun l => (l.drop 2).take 3) (lJ a sp i b)
 simp only [List.drop_take, List.take_take, QcQ] at this
 exact this
theorem a0j (a : List It) sp i u (b : i < a.length) : (a.flatMap bO ++ sp).set (i * 6 + 5) (iQ u) = (a.set i { a.getD i default with u := u }).flatMap bO ++ sp :=
  qj iZ a i 5 _ _ sp b (by decide) (by simp [List.getD, b, bO])
theorem pR (a : List It) sp i (b : i < a.length) : i * 6 + 6 ≤ (a.flatMap bO ++ sp).length := by
 rw [Qae, cF iZ]; omega
theorem wm {a : List It} {i} (h : i < a.length) : a ≠ [] := fun e => by rw [e] at h; simp at h
theorem tf b its tl : sQ W0 421 [pQ b] (aU b (its, tl) :: R) (iQ its.length) (aU b (its, tl) :: R) := by
 refine wj fun a c => ?_
 refine am func421 ntmps421 ?_
 refine ac ?_
 exact ⟨_, ⟨rfl, rfl⟩, rY rfl⟩
theorem yd b its tl (i k : Nat) (d : i < its.length) (e : k < its.length) : sQ W0 507 [pQ b, iQ i, iQ k] (aU b (its, tl) :: R) (.bool (decide (us its i < us its k))) (aU b (its, tl) :: R) := by
 refine Ey (wm d) fun g c f h j l => ?_
 refine am func507 ntmps507 ?_
 refine bz [b, g] 18 fun a => ?_
 refine aj 0 5 a ?_
 refine az 5 a (bM d) ?_
 refine aj 6 1 a ?_
 refine az 7 a (aE (dq (k := 1) rfl ((ya its f i 5 d (by decide)).trans rfl))) ?_
 refine aj 8 5 a ?_
 refine az 13 a (bM e) ?_
 refine aj 14 1 a ?_
 refine az 15 a (aE (dq (k := 1) rfl ((ya its f k 5 e (by decide)).trans rfl))) ?_
 refine aj 16 2 a ?_
 refine aJ ?_
 refine ac ?_
 exact ⟨_, ⟨rfl, rfl⟩, te rfl rfl h j l⟩
theorem yf b its tl (i k : Nat) (e : i < its.length) (f : k < its.length) : sQ W0 510 [pQ b, iQ i, iQ k] (aU b (its, tl) :: R) (.tuple #[]) (aU b (swapL its i k, tl) :: R) := by
 refine Ey (wm e) fun g c d l h j => ?_
 refine am func510 ntmps510 ?_
 refine bz [b] 28 fun a => ?_
 refine aj 0 15 a ?_
 refine az 15 a (bM f) ?_
 refine aj 17 5 a ?_
 refine az 22 a (bM e) ?_
 refine eD (is := [16, 23]) (by kernel_rfl) rfl ⟨?_, ?_, trivial⟩
 refine cX (dP (dj (cQ (lJ its d k f) rfl))) ?_; clear a
 rintro _ _ ⟨rfl, rfl⟩
 refine ⟨aT, fun a => ?_⟩
 refine bY 23 (dP (dj (cQ (lJ its d i e) rfl))) fun a => ?_
 refine az 24 a (bM e) ?_
 refine cm 25 (iD (pR its d i e) (qQ its d i (its.getD k default) e)) fun a => ?_
 refine az 26 a (bM f) ?_
 refine cm 27 (iD (pR (its.set i (its.getD k default)) d k (by grind)) (qQ (its.set i (its.getD k default)) d k (its.getD i default) (by grind))) fun a => ?_
 refine aJ ?_
 refine bU (.inr rfl) .nil ?_
 exact ⟨_, ⟨rfl, rfl⟩, te rfl (by simp [swapL]) (by omega) h (by simpa [swapL, cF iZ] using j)⟩
 skip
 refine cX (dP (dj (cQ (lJ its d i e) rfl))) ?_; clear a
 rintro _ _ ⟨rfl, rfl⟩
 refine ⟨aT, fun a => ?_⟩
 refine bY 16 (dP (dj (cQ (lJ its d k f) rfl))) fun a => ?_
 refine az 24 a (bM e) ?_
 refine cm 25 (iD (pR its d i e) (qQ its d i (its.getD k default) e)) fun a => ?_
 refine az 26 a (bM f) ?_
 refine cm 27 (iD (pR (its.set i (its.getD k default)) d k (by grind)) (qQ (its.set i (its.getD k default)) d k (its.getD i default) (by grind))) fun a => ?_
 refine aJ ?_
 refine bU (.inr rfl) .nil ?_
 exact ⟨_, ⟨rfl, rfl⟩, te rfl (by simp [swapL]) (by omega) h (by simpa [swapL, cF iZ] using j)⟩
theorem AY b its x tl : sQ W0 508 [pQ b] (aU b (its ++ [x], tl) :: R) (.iface 282 (.agg (bO x).toArray)) (aU b (its, tl) :: R) := by
 refine Ey (by simp) fun g c a i d j => ?_
 have k : (its ++ [x]).length = its.length + 1 := by simp
 rw [k] at i ⊢
 have l : (its ++ [x]).getD its.length default = x := by grind
 have e := lJ (its ++ [x]) a its.length (by omega)
 rw [l] at e
 have f : (its ++ [x]).flatMap bO ++ a = its.flatMap bO ++ (bO x ++ a) := by simp
 refine am func508 ntmps508 ?_
 refine aa (l8 rfl rfl (by rw [cj (by simp only [maxLen] at d; omega)]; omega : IntKind.wrap .i64 (((its.length + 1 : Nat) : Int) - 1) = ((its.length : Nat) : Int))) ?_
 refine aa (bM (by omega)) ?_
 refine aa (dj (cQ e rfl)) ?_
 refine bu fun m => ?_
 refine ar aA ?_
 refine aa (oM jL fg rfl rfl rfl (by omega)) ?_
 refine fh (lU Ni rfl rfl rfl (Qab rfl) SetL.eq) ?_
 rintro _ _ rfl
 refine aL (aH (aO (aY (ae rfl (pE mY fg rfl rfl) ?_))))
 refine ae rfl (xi tT (fun _ h => by cases h) rfl) ?_
 refine ae rfl (bC rfl) (aL (aH (dE (bU (.inl rfl) (.cons (aR rfl) .nil) ?_))))
 rw [f]
 exact ⟨_, ⟨rfl, rfl⟩, te (sp := bO x ++ a) rfl rfl (by omega) d (by rw [← f]; exact j)⟩
theorem a0k b its x tl (j : its.length < 1000) : sQ W0 509 [pQ b, .iface 282 (.agg (bO x).toArray)] (aU b (its, tl) :: R) (.tuple #[]) (aU b (its ++ [x], tl) :: R) := by
 refine wj fun a c => ?_
 have e : its.flatMap bO ++ [bO x].flatten = (its ++ [x]).flatMap bO := by simp
 refine lG func509 ntmps509 rfl rfl ?_
 refine bz [] 12 fun d => ?_
 refine aj 0 4 d ?_
 refine aj 5 1 d ?_
 refine az 6 d (sM tT (fun _ h => by cases h) rfl) ?_
 refine eD (is := [4, 7]) (by kernel_rfl) rfl ⟨?_, ?_, trivial⟩
 refine cX (dP (aE (aI rfl))) ?_; clear d
 rintro _ _ ⟨rfl, rfl⟩
 refine ⟨aT, fun d => ?_⟩
 refine kt 7 (by kernel_rfl) rfl rfl (iA jL fg sr rfl (fp rfl rfl hJ) rfl (by decide) (by decide) (by decide)) rfl ?_; clear d
 rintro _ _ ⟨f, rfl, rfl⟩
 refine ⟨aT, fun d => ?_⟩
 refine bQ 8 (eE (sz := 6) (by_ := 48) (info := Tryz.t282) jL (by kernel_rfl) rfl rfl rfl rfl (by decide) rfl rfl en rfl rfl (by simp only [maxLen]; omega) (by omega)) ?_; clear d
 rintro _ _ ⟨g, i, rfl, rfl⟩
 refine ⟨aT, fun d => ?_⟩
 refine aj 9 2 d ?_
 refine cm 11 dX fun d => ?_
 refine hQ ?_
 refine bU (.inr rfl) .nil ?_
 rw [e]
 exact ⟨_, ⟨rfl, rfl⟩, rY (its := its ++ [x]) (by simp)⟩
 skip
 refine nU rfl rfl (iA jL fg sr rfl (fp rfl rfl hJ) rfl (by decide) (by decide) (by decide)) rfl ?_; clear d
 rintro _ _ ⟨f, rfl, rfl⟩
 refine ⟨aT, fun d => ?_⟩
 refine bY 4 (dP (aE (aI rfl))) fun d => ?_
 refine bQ 8 (eE (sz := 6) (by_ := 48) (info := Tryz.t282) jL (by kernel_rfl) rfl rfl rfl rfl (by decide) rfl rfl en rfl rfl (by simp only [maxLen]; omega) (by omega)) ?_; clear d
 rintro _ _ ⟨g, i, rfl, rfl⟩
 refine ⟨aT, fun d => ?_⟩
 refine aj 9 2 d ?_
 refine cm 11 dX fun d => ?_
 refine aJ ?_
 refine bU (.inr rfl) .nil ?_
 rw [e]
 exact ⟨_, ⟨rfl, rfl⟩, rY (its := its ++ [x]) (by simp)⟩
section
variable (w : World) (a : Addr)
theorem yg : (method (Tryz.prog.types.size + Made.depth) 431 (.pointer (some a)) "Len").run Tryz.prog w = .ok (421, .pointer (some a)) w := by kernel_rfl
theorem yh : (method (Tryz.prog.types.size + Made.depth) 431 (.pointer (some a)) "Less").run Tryz.prog w = .ok (507, .pointer (some a)) w := by kernel_rfl
theorem yi : (method (Tryz.prog.types.size + Made.depth) 431 (.pointer (some a)) "Swap").run Tryz.prog w = .ok (510, .pointer (some a)) w := by kernel_rfl
theorem a0l : (method (Tryz.prog.types.size + Made.depth) 431 (.pointer (some a)) "Push").run Tryz.prog w = .ok (509, .pointer (some a)) w := by kernel_rfl
theorem AZ : (method (Tryz.prog.types.size + Made.depth) 431 (.pointer (some a)) "Pop").run Tryz.prog w = .ok (508, .pointer (some a)) w := by kernel_rfl
end
def nD (b : Nat) : Value := .iface 431 (.pointer (some ⟨b, 0, none⟩))
theorem E4 {j : Nat} (h : j < 1000) : IntKind.wrap .i64 (Int.tdiv (j - 1) 2) = ((j - 1) / 2 : Nat) := by
 grind [Int.tdiv_eq_ediv_of_nonneg, cj]
theorem xO {l a : List It} {i j n} (c : i < n) (d : j < n) (e : n ≤ l.length) (h : ∀ x, n ≤ x → l.getD x default = a.getD x default) : ∀ x, n ≤ x → (swapL l i j).getD x default = a.getD x default := fun x b => by
 rw [rS (by omega) (by omega), Qaa (by omega), Qaa (by omega)]; exact h x b
theorem vZ W0 R b its tl j n (k : n ≤ its.length) (m : n < 1000) (g : j < n) (c : Up its j n) : sP W0 202 [nD b, iQ j] (aU b (its, tl) :: R) (fun v B => v = .tuple #[] ∧ ∃ a, B = aU b (a, tl) :: R ∧ a.Perm its ∧ Heap a n ∧ ∀ x, n ≤ x → a.getD x default = its.getD x default) := by
 refine am func202 ntmps202 ?_
 refine cW (fun X : List It × Nat => X.1.Perm its ∧ X.2 < n ∧ Up X.1 X.2 n ∧ ∀ x, n ≤ x → X.1.getD x default = its.getD x default) (fun X => [(0, nD b), (1, iQ X.2)]) (fun X => aU b (X.1, tl) :: R) (fun X => X.2) (its, j) ?_ ?_
 grind
 intro ⟨l, j⟩ ⟨d, g, c, h⟩
 have e := d.length_eq
 simp only at g c h d e ⊢
 refine aw ?_
 refine aa gz ?_
 refine aa (ng rfl rfl (by decide) (E4 (by omega))) ?_
 refine cn (fun f => ?_) fun f => ?_
 refine bU (.inr rfl) .nil ?_
 exact ⟨_, ⟨rfl, l, rfl, d, xL c (by omega), h⟩, IO⟩
 refine ah (fC rfl ((fun w => yh w _)) Cu rfl (yd b l tl j ((j - 1) / 2) (by omega) (by omega))) ?_
 refine aC rfl (fun i => ?_) fun i => ?_
 refine au 5 ?_
 refine bU (.inr rfl) .nil ?_
 exact ⟨_, ⟨rfl, l, rfl, d, xL c (by omega), h⟩, IO⟩
 replace i : us l j < us l ((j - 1) / 2) := by omega
 refine aw ?_
 refine ah (fC rfl ((fun w => yi w _)) Cv rfl (yf b l tl ((j - 1) / 2) j (by omega) (by omega))) ?_
 exact bR (swapL l ((j - 1) / 2) j, (j - 1) / 2) (⟨(lI (by omega) (by omega)).trans d, by show (j - 1) / 2 < n; omega, DV c (by omega) g (by omega) i, xO (by omega) g (by omega) h⟩)
theorem w0 W0 R b its tl i0 n (G : n ≤ its.length) (H : n < 1000) (I : i0 ≤ n) (J : jC its i0 n) : sP W0 272 [nD b, iQ i0, iQ n] (aU b (its, tl) :: R) (fun v B => ∃ l m, v = .bool m ∧ B = aU b (l, tl) :: R ∧ Down its l i0 n m) := by
 refine am NO ntmps272 ?_
 refine cW (fun X : List It × Nat => X.1.Perm its ∧ i0 ≤ X.2 ∧ jC X.1 X.2 n ∧ (∀ x, n ≤ x → X.1.getD x default = its.getD x default) ∧ (X.2 = i0 → X.1 = its) ∧ (i0 < X.2 → us X.1 ((X.2 - 1) / 2) ≤ us X.1 X.2) ∧ X.2 ≤ n) (fun X => [(0, nD b), (1, iQ i0), (2, iQ n), (7, iQ X.2)]) (fun X => aU b (X.1, tl) :: R) (fun X => n - X.2) (its, i0) ?_ ?_
 grind
 intro ⟨l, i⟩ ⟨k, g, s, t, u, y, z⟩
 have o := k.length_eq
 simp only at k g s t u y z o ⊢
 refine aw ?_
 refine aa ug ?_
 refine aa (dQ (2 * i + 1)) ?_
 refine cn (fun p => ?_) fun p => ?_
 refine ac ?_
 refine ⟨_, ⟨l, decide (i0 < i), by simp [aK], rfl, xN k g s t u y ?_⟩, IO⟩
 first | (intro c d e f; exfalso; omega) | (intro c d e f; have := a c d e f; simp at h; omega)
 refine aC rfl (fun D => ?_) fun D => ?_
 omega
 refine au 8 ?_
 refine cy (fun j : Nat => (j - 1) / 2 = i ∧ 0 < j ∧ j < n ∧ ∀ c, c < n → 0 < c → (c - 1) / 2 = i → us l j ≤ us l c) (fun j => [(0, nD b), (1, iQ i0), (2, iQ n), (7, iQ i), (9, iQ j)]) (fun j => aU b (l, tl) :: R) ?_ ?_
 refine au 3 ?_
 refine aa (dQ (2 * i + 2)) ?_
 refine bN (fun q => ?_) fun q => ?_
 refine ah (fC rfl ((fun w => yh w _)) Cu rfl (yd b l tl (2 * i + 2) (2 * i + 1) (by omega) (by omega))) ?_
 refine ai (fun E => ?_) fun E => ?_
 refine bq (2 * i + 2) ?_
 refine ⟨by omega, by omega, by omega, fun c d e f => ?_⟩
 have : c = 2 * i + 1 ∨ c = 2 * i + 2 := by omega
 rcases this with rfl | rfl <;> omega
 refine bq (2 * i + 1) ?_
 refine ⟨by omega, by omega, by omega, fun c d e f => ?_⟩
 have : c = 2 * i + 1 ∨ c = 2 * i + 2 := by omega
 rcases this with rfl | rfl <;> omega
 refine bq (2 * i + 1) ?_
 refine ⟨by omega, by omega, by omega, fun c d e f => ?_⟩
 have : c = 2 * i + 1 ∨ c = 2 * i + 2 := by omega
 rcases this with rfl | rfl <;> omega
 intro j ⟨F, A, r, a⟩
 refine aw ?_
 refine ah (fC rfl ((fun w => yh w _)) Cu rfl (yd b l tl j i (by omega) (by omega))) ?_
 refine aC rfl (fun h => ?_) fun h => ?_
 refine au 15 ?_
 refine ac ?_
 refine ⟨_, ⟨l, decide (i0 < i), by simp [aK], rfl, xN k g s t u y ?_⟩, IO⟩
 first | (intro c d e f; exfalso; omega) | (intro c d e f; have := a c d e f; simp at h; omega)
 replace h : us l j < us l i := by simpa using h
 refine aw ?_
 refine ah (fC rfl ((fun w => yi w _)) Cv rfl (yf b l tl i j (by omega) (by omega))) ?_
 refine bR (swapL l i j, j) ?_ (hμ := ?_)
 have C := DU s (by omega) r F A h a
 exact ⟨(lI (by omega) (by omega)).trans k, by show i0 ≤ j; omega, C.1, xO (by omega) r (by omega) t, by show j = i0 → _; omega, fun _ => C.2, by show j ≤ n; omega⟩
 show n - j < n - i; omega
theorem JQ b its tl i (e : its.length < 1000) (g : i < its.length) (f : jC its i its.length) : sP W0 420 [nD b, iQ i] (aU b (its, tl) :: R) (fun v B => v = .tuple #[] ∧ ∃ a, B = aU b (a, tl) :: R ∧ a.Perm its ∧ Heap a its.length) := by
 refine am func420 ntmps420 ?_
 refine ah (fC rfl ((fun w => yg w _)) ve rfl (tf b its tl)) ?_
 refine aF rfl (ap zu (w0 W0 _ b its tl i its.length (Qam _) e (by omega) f)) ?_
 rintro _ _ ⟨l, m, rfl, rfl, d⟩
 refine aw ?_
 refine ai (fun h => ?_) fun h => ?_
 have j : m = false := by grind
 obtain ⟨rfl, c⟩ := d.no j
 refine aF rfl (ap Cp (vZ W0 _ b l tl i l.length (Qam _) e g (Av f c))) ?_
 rintro _ _ ⟨rfl, k, rfl, n, o, _⟩
 refine aw ?_
 refine bU (.inr rfl) .nil ?_
 exact ⟨_, ⟨rfl, k, rfl, n, o⟩, IO⟩
 refine bU (.inr rfl) .nil ?_
 exact ⟨_, ⟨rfl, l, rfl, d.perm, d.yes (by grind)⟩, IO⟩
theorem E5 {its x} (h : Heap its its.length) : Up (its ++ [x]) its.length (its.length + 1) := by
 have e : ∀ c, c < its.length → us (its ++ [x]) c = us its c := fun c a => by
  unfold us; simp only [Qas]; rw [QaB a]
 intro c a b
 refine ⟨fun d => ?_, fun d f => by omega⟩
 rw [e c (by omega), e _ (by omega)]; exact h c (by omega) b
theorem heapPush_spec b its x tl (h : its.length < 900) (e : Heap its its.length) : sP W0 138 [nD b, .iface 282 (.agg (bO x).toArray)] (aU b (its, tl) :: R) (fun v B => v = .tuple #[] ∧ ∃ a, B = aU b (a, tl) :: R ∧ a.Perm (its ++ [x]) ∧ Heap a a.length) := by
 have f : (its ++ [x]).length = its.length + 1 := by simp
 refine am func138 ntmps138 ?_
 refine ah (fC rfl ((fun w => a0l w _)) call509 rfl (a0k b its x tl (by omega))) ?_
 refine ah (fC rfl ((fun w => yg w _)) ve rfl (tf b (its ++ [x]) tl)) ?_
 refine aa (nV its.length) ?_
 refine aF rfl (ap Cp (vZ W0 _ b (its ++ [x]) tl its.length (its.length + 1) (by omega) (by omega) (by omega) (E5 e))) ?_
 rintro _ _ ⟨rfl, g, rfl, d, c, _⟩
 refine aw ?_
 refine bU (.inr rfl) .nil ?_
 exact ⟨_, ⟨rfl, g, rfl, d, by rw [d.length_eq, f]; exact c⟩, IO⟩
theorem xR {l : List It} {n} (h : l.length = n + 1) : ∃ b x, l = b ++ [x] ∧ b.length = n ∧ x = l.getD n default := by
 have a : l ≠ [] := fun e => by rw [e] at h; simp at h
 refine ⟨l.dropLast, l.getLast a, (List.dropLast_concat_getLast a).symm, by simp [h], ?_⟩
 rw [List.getLast_eq_getElem]
 simp [List.getD, h]
theorem xS {l x n} (h : Heap (l ++ [x]) n) (a : n ≤ l.length) : Heap l n :=
  DY (fun i b => by simp only [Qas]; rw [QaB (by omega)]) h
theorem heapPop_spec b its tl (F : its.length < 900) (i : its ≠ []) (p : Heap its its.length) : sP W0 192 [nD b] (aU b (its, tl) :: R) (fun v B => ∃ x a, v = .iface 282 (.agg (bO x).toArray) ∧ B = aU b (a, tl) :: R ∧ (a ++ [x]).Perm its ∧ Heap a a.length ∧ ∀ y ∈ its, x.u ≤ y.u) := by
 obtain ⟨n, G⟩ : ∃ n, its.length = n + 1 := ⟨its.length - 1, by have := Qcx.2 i; omega⟩
 have q : jC (swapL its 0 n) 0 n := fun c j i => ⟨fun r s => by
  rw [kP (by omega) (by omega), kP (by omega) (by omega), Qaa s, Qaa r, Qaa (by omega), Qaa (by omega)]
  exact p c (by omega) i, fun _ h => by omega⟩
 have t := xJ its 0 n
 refine am func192 ntmps192 ?_
 refine ah (fC rfl ((fun w => yg w _)) ve rfl (tf b its tl)) ?_
 refine aa (nV n) ?_
 refine ah (fC rfl ((fun w => yi w _)) Cv rfl (yf b its tl 0 n (by omega) (by omega))) ?_
 refine aF rfl (ap zu (w0 W0 _ b (swapL its 0 n) tl 0 n (by omega) (by omega) (by omega) q)) ?_
 rintro _ _ ⟨l, m, rfl, rfl, d⟩
 have z := d.perm.length_eq
 obtain ⟨g, x, rfl, k, A⟩ := xR (l := l) (n := n) (by omega)
 have o : x = its.getD 0 default := by
  rw [A, d.tail n (Qam _), rS (by omega) (by omega)]; split
  rename_i e; subst e; rfl
  rw [Qad rfl]
 have C : (g ++ [x]).Perm its := d.perm.trans (lI (by omega) (by omega))
 have D : Heap (g ++ [x]) n := by
  cases m with
  | true => exact d.yes rfl
  | false =>
   obtain ⟨e, f⟩ := d.no rfl
   rw [e]; exact xK q f (fun h => absurd h (by omega))
 refine aw ?_
 refine ah (fC rfl ((fun w => AZ w _)) GA rfl (AY b g x tl)) ?_
 refine ac ?_
 refine ⟨_, ⟨x, g, rfl, rfl, C, by rw [k]; exact xS D (by omega), fun y E => ?_⟩, IO⟩
 obtain ⟨c, j, rfl⟩ := Qbb.1 E
 have := heap_min p c j
 rw [us_eq j] at this
 rw [o]; exact this
theorem heapRemove_spec b a tl (i : Nat) (M : a.length < 900) (N : i < a.length) (u : Heap a a.length) : sP W0 271 [nD b, iQ i] (aU b (a, tl) :: R) (fun v B => ∃ e, v = .iface 282 (.agg (bO (a.getD i default)).toArray) ∧ B = aU b (e, tl) :: R ∧ (e ++ [a.getD i default]).Perm a ∧ Heap e e.length) := by
 obtain ⟨n, O⟩ : ∃ n, a.length = n + 1 := ⟨a.length - 1, by omega⟩
 have E : i ≠ n → jC (swapL a i n) i n := fun g c P F => ⟨fun y z => by
  rw [kP (by omega) (by omega), kP (by omega) (by omega), Qaa z, Qaa y, Qaa (by omega), Qaa (by omega)]
  exact u c (by omega) F, fun y z => by
  rw [kP (by omega) (by omega), kP (by omega) (by omega), Qaa (by omega), Qaa (by omega), Qaa (by omega), Qaa (by omega)]
  have H := u c (by omega) F
  have Q := u i (by omega) z
  rw [y] at H; omega⟩
 have I := xJ a i n
 have q : ∀ l : List It, l.Perm a → Heap l n → l.getD n default = a.getD i default → ∃ d, l = d ++ [a.getD i default] ∧ d.length = n ∧ Heap d d.length := fun l f o G => by
  have := f.length_eq
  obtain ⟨d, x, rfl, k, s⟩ := xR (l := l) (n := n) (by omega)
  rw [G] at s; subst s
  exact ⟨d, rfl, k, by rw [k]; exact xS o (by omega)⟩
 have p : i ≠ n → (swapL a i n).getD n default = a.getD i default := fun h => by
  rw [rS (by omega) (by omega), Qaa (by omega), Qad rfl]
 refine am func271 ntmps271 ?_
 refine ah (fC rfl ((fun w => yg w _)) ve rfl (tf b a tl)) ?_
 refine aa (nV n) ?_
 refine ai (fun J => ?_) fun J => ?_
 have g : i ≠ n := by omega
 refine ah (fC rfl ((fun w => yi w _)) Cv rfl (yf b a tl i n (by omega) (by omega))) ?_
 refine aF rfl (ap zu (w0 W0 _ b (swapL a i n) tl i n (by omega) (by omega) (by omega) (E g))) ?_
 rintro _ _ ⟨l, m, rfl, rfl, r⟩
 have K := r.perm.length_eq
 refine aw ?_
 refine ai (fun A => ?_) fun A => ?_
 have C : m = false := by simpa using A
 obtain ⟨rfl, t⟩ := r.no C
 refine aF rfl (ap Cp (vZ W0 _ b (swapL a i n) tl i n (by omega) (by omega) (by omega) (Av (E g) t))) ?_
 rintro _ _ ⟨rfl, l, rfl, f, o, L⟩
 obtain ⟨d, rfl, k, o⟩ := q l (f.trans (lI (by omega) (by omega))) o ((L n (Qam _)).trans (p g))
 replace f := f.trans (lI (by omega) (by omega))
 generalize a.getD i default = x at f ⊢
 refine aw ?_
 refine ah (fC rfl ((fun w => AZ w _)) GA rfl (AY b d x tl)) ?_
 refine ac ?_
 exact ⟨_, ⟨d, rfl, rfl, by first | exact f | exact QaN _, o⟩, IO⟩
 have C : m = true := by simpa using A
 obtain ⟨d, rfl, k, o⟩ := q l (r.perm.trans (lI (by omega) (by omega))) (r.yes C) ((r.tail n (Qam _)).trans (p g))
 have f := r.perm.trans (lI (l := a) (i := i) (j := n) (by omega) (by omega))
 generalize a.getD i default = x at f ⊢
 refine ah (fC rfl ((fun w => AZ w _)) GA rfl (AY b d x tl)) ?_
 refine ac ?_
 exact ⟨_, ⟨d, rfl, rfl, by first | exact f | exact QaN _, o⟩, IO⟩
 obtain rfl : n = i := by omega
 obtain ⟨d, D, k, o⟩ := q a (QaN _) (DZ u (by omega)) rfl
 have f : (d ++ [a.getD n default]).Perm a := by rw [← D]
 generalize G : a.getD n default = x at D f ⊢
 rw [D]
 refine ah (fC rfl ((fun w => AZ w _)) GA rfl (AY b d x tl)) ?_
 refine ac ?_
 exact ⟨_, ⟨d, rfl, rfl, by first | exact f | exact QaN _, o⟩, IO⟩
@[reducible] def gW (k : Int × Int) : List Value := [.int .i64 k.1, .int .i64 k.2]
@[reducible] def mN (e : Int × Int × Int) : List Value := [.int .i64 e.1, .int .i64 e.2.1, .int .i64 e.2.2]
theorem a0m x bk k : sQ W0 358 [.agg (bO x).toArray, pQ bk] (pt bk (ag (gW k) 51) :: R) (.bool (decide (x.key = k))) (pt bk (ag (gW k) 51) :: R) := by
 refine am func358 ntmps358 ?_
 refine bB fun a => ?_
 refine ae rfl (dj (cQ (vs := [iQ x.kr, iQ x.kp]) rfl rfl)) ?_
 refine ae rfl (dj (cQ (vs := [iQ k.1, iQ k.2]) rfl rfl)) ?_
 refine aa (sI Tryz.eqGuardType51 rfl rfl (sH Ce Tryz.stoodInHeld51 (lT rfl db rfl rfl (lS jj) (lT rfl db rfl rfl (lS jj) sG)))) ?_
 refine ac ?_
 refine aG ?_
 simp [aK, It.key, Prod.ext_iff]; rw [Qag]; simp
def JR (its : List It) (k : Int × Int) (r : Int) : Prop := (r = -1 ∧ ∀ x ∈ its, x.key ≠ k) ∨ ∃ i : Nat, r = (i : Int) ∧ i < its.length ∧ (its.getD i default).key = k
theorem a0n {a : List It} {k} (h : ∀ i, i < a.length → (a.getD i default).key ≠ k) : ∀ x ∈ a, x.key ≠ k := fun x d => by
 obtain ⟨c, b, rfl⟩ := Qbb.1 d
 have := h c b
 simpa [List.getD, b] using this
theorem a0o its a c bk k (u : its.length < 1000) : sP W0 357 [.slice a its.length c, .func (.func 358) #[] #[pQ bk]] (osl 282 6 (.slice a its.length c) (its.flatMap bO) :: pt bk (ag (gW k) 51) :: R) (fun v B => ∃ r, v = iQ r ∧ B = osl 282 6 (.slice a its.length c) (its.flatMap bO) :: pt bk (ag (gW k) 51) :: R ∧ JR its k r) := by
 refine xk (fun b d => ?_) fun g n q l b d m o p => ?_
 have s : its.length = 0 := by grind
 obtain rfl : its = [] := QaE s
 cases b
 refine am GB ntmps357 ?_
 refine cW (fun X : Nat => True) (fun X => [(7, iQ 0), (8, iQ X)]) (fun X => pt bk (ag (gW k) 51) :: R) (fun X => X) 0 ?_ ?_
 trivial
 intro j t
 refine aw ?_
 refine aC rfl (fun e => ?_) fun e => ?_
 omega
 refine aw ?_
 refine ac ?_
 exact ⟨_, ⟨-1, rfl, rfl, .inl ⟨rfl, by simp⟩⟩, fm⟩
 cases b
 refine am GB ntmps357 ?_
 refine cW (fun X : Nat => X ≤ its.length ∧ ∀ i, i < X → (its.getD i default).key ≠ k) (fun X => [(0, .slice (some ⟨g, 0, none⟩) its.length c), (1, .func (.func 358) #[] #[pQ bk]), (7, iQ (its.length : Nat)), (8, iQ X)]) (fun X => pt g (ag (its.flatMap bO ++ l) 282) :: pt bk (ag (gW k) 51) :: R) (fun X => its.length - X) 0 ?_ ?_
 grind
 intro j ⟨t, f⟩
 refine aw ?_
 refine ai (fun e => ?_) fun e => ?_
 refine aa (bM (by omega)) ?_
 refine aa (dj (cQ (lJ its l j (by omega)) rfl)) ?_
 refine ah (ue rfl call358 rfl (a0m (its.getD j default) bk k)) ?_
 refine aC rfl (fun h => ?_) fun h => ?_
 replace h : (its.getD j default).key = k := by omega
 refine aw ?_
 refine ac ?_
 exact ⟨_, ⟨_, rfl, rfl, .inr ⟨j, rfl, by omega, h⟩⟩, fk d m o p⟩
 refine aw ?_
 refine aa bW ?_
 refine bR (j + 1) ?_
 grind
 refine ac ?_
 exact ⟨_, ⟨-1, rfl, rfl, .inl ⟨rfl, a0n fun i w => f i (by omega)⟩⟩, fk d m o p⟩
theorem wn b its rm nw : sQ W0 152 [pQ b] (aU b (its, [rm, nw, .bool true]) :: R) (.bool false) (aU b (its, [rm, nw, .bool true]) :: R) := by
 refine wj fun a c => ?_
 refine am func152 ntmps152 ?_
 refine dk rfl rfl rfl (fun d => ?_) fun d => ?_
 cases d
 refine aw ?_
 refine ac ?_
 exact ⟨_, ⟨by simp [aK], rfl⟩, rY rfl⟩
theorem JS b v0 rm (a : Nat) (c : a < 1000000) : sQ W0 419 [pQ b] (pt b (ag [v0, rm, iQ a, .bool true] 289) :: R) (iQ (a + 1 : Nat)) (pt b (ag [v0, rm, iQ (a + 1 : Nat), .bool true] 289) :: R) := by
 refine am func419 ntmps419 ?_
 refine aa (dQ (a + 1)) ?_
 refine ar dX ?_
 exact ac ao
theorem JU b its rm (d : Nat) (e : d < 1000000) : sQ W0 419 [pQ b] (aU b (its, [rm, iQ d, .bool true]) :: R) (iQ (d + 1 : Nat)) (aU b (its, [rm, iQ (d + 1 : Nat), .bool true]) :: R) := by
 refine wj fun a c => gQ (JS b _ rm d e) ?_
 rintro _ _ ⟨rfl, rfl⟩
 exact ⟨_, ⟨rfl, rfl⟩, rY rfl⟩
theorem EA b its tl k (d : its.length < 1000) : sP W0 317 [pQ b, .agg (gW k).toArray] (aU b (its, tl) :: R) (fun v B => ∃ r, v = iQ r ∧ B = aU b (its, tl) :: R ∧ JR its k r) := by
 refine wj fun a c => ?_
 refine am func317 ntmps317 ?_
 refine bB fun e => ?_
 refine aF rfl (cv call357 (a0o its a c e k d)) ?_
 rintro _ _ ⟨r, rfl, rfl, f⟩
 refine aw ?_
 refine ac ?_
 exact ⟨_, ⟨r, rfl, rfl, f⟩, rY rfl⟩
theorem a0p (a : Nat) (h : a ≤ 4) : sP W0 245 [iQ a] R (fun v B => ∃ b, v = .tuple #[pQ b, iQ 0] ∧ B = aU b ([], [iQ a, iQ 0, .bool true]) :: R) := by
 refine am func245 ntmps245 ?_
 refine dk rfl rfl rfl (fun c => ?_) fun c => ?_
 omega
 refine aw ?_
 refine aC rfl (fun d => ?_) fun d => ?_
 omega
 refine aw ?_
 refine bB fun e => ?_
 refine ax ?_
 exact ⟨_, ⟨e, rfl, rfl⟩, (Ent.cons (fm (B := R))).trans (fK (R := R) (C := [_, _]) ⟨none, 0, rfl⟩)⟩
abbrev wo (pv bt bs : Nat) : Obj := ag [.pointer (some ⟨pv, 0, none⟩), .pointer (some ⟨bt, 0, none⟩), .pointer (some ⟨bs, 0, none⟩)] 153
theorem a0q : sP W0 246 [] R (fun v B => ∃ b, v = pQ b ∧ B = pt b (ag [ej, .bool true] 276) :: R) := by
 refine am func246 ntmps246 ?_
 refine bB fun a => ?_
 refine ac ?_
 exact ⟨_, ⟨_, rfl, rfl⟩, ent_refl⟩
theorem a0r (c h i d a : Nat) (l : a ≤ 4) : sP W0 162 [pQ c, iQ a] (pt c (cg h i d) :: R) (fun v B => ∃ e f g, v = .tuple #[pQ e, iQ 0] ∧ B = pt e (wo c f g) :: aU f ([], [iQ a, iQ 0, .bool true]) :: pt g (ag [ej, .bool true] 276) :: pt c (cg h i d) :: R) := by
 refine am func162 ntmps162 ?_
 refine ah (ap nT (rL c h i d)) ?_
 refine ai (fun j => ?_) fun j => ?_
 exact absurd j (by simp)
 refine aF rfl (aB call245 (a0p a l)) ?_
 rintro _ m ⟨f, rfl, b⟩
 subst b
 refine aw ?_
 refine ai (fun k => ?_) fun k => ?_
 exact absurd rfl k
 refine aF rfl (aB call246 (a0q)) ?_
 rintro _ m ⟨g, rfl, b⟩
 subst b
 refine aw ?_
 refine bB fun e => ?_
 refine ax ?_
 exact ⟨_, ⟨e, f, g, rfl, rfl⟩, IO⟩
end
end Go.Proofs.YtbhimdcapbflkaaGreatDoor
