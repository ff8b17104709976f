/-
  Part 3 of the proof of GuestAnew: rules, and walks of functions. Conditions: none.
-/
import Derived.Test.YtbhimdcapbflkaaGreatDoorGuestAnewB
namespace Go.Proofs.YtbhimdcapbflkaaGreatDoor
open Go.Proofs.Tryz
set_option linter.unusedSimpArgs false
set_option linter.unusedVariables false
set_option maxRecDepth 20000
set_option linter.defProp false
set_option synthInstance.maxSize 8192
set_option synthInstance.maxHeartbeats 2000000
variable {W0 : World} {R : List HP}
section
open Go.RowKit
def gL (l cats : Int) : Bool := decide (0 ≤ cats ∧ cats ≤ 8) && mT l && decide (jK .i64 l cats = 0)
theorem Ej l cats : sQ W0 258 [iQ l, iQ cats] R (.bool (gL l cats)) R := by
 refine am func258 ntmps258 ?_
 refine ai (fun b => ?_) fun b => ?_
 refine ac ?_
 have a : gL l cats = false := by
  rw [← Qau, gL]; intro q
  simp only [Qao, Qak] at q
  first
    | omega
    | (have := q.1.2; simp_all)
 rw [a]; exact ao
 refine ai (fun c => ?_) fun c => ?_
 refine ac ?_
 have a : gL l cats = false := by
  rw [← Qau, gL]; intro q
  simp only [Qao, Qak] at q
  first
    | omega
    | (have := q.1.2; simp_all)
 rw [a]; exact ao
 refine ah (aC Ob (Ee l)) ?_
 refine ai (fun d => ?_) fun d => ?_
 refine ac ?_
 have a : gL l cats = false := by
  simp_all [Qau, gL, Qao]
 rw [a]; exact ao
 refine aa (j0 rfl rfl (by omega) rfl) ?_
 refine ac ?_
 refine aG ?_
 refine Qai Value.bool ?_
 rw [Qag, gL]
 simp only [Qao, Qak]
 constructor
 grind
 grind
structure Cfg where
  cats : Int
  ga : Option Addr
  gc : Nat
  gl : List (Int × Int × Int)
  ra : Option Addr
  rc : Nat
  rl : List (Int × Int × Int)
  pa : Option Addr
  pc : Nat
  pl : List (Int × Int)
  na : Option Addr
  nc : Nat
  nl : List (Int × Int)
  sa : Option Addr
  sc : Nat
  sl : List (Int × Int)
  gate : Int
  quota : Int
@[reducible] def dC (c : Cfg) : List Value := [.int .i64 c.cats, .slice c.ga c.gl.length c.gc, .slice c.ra c.rl.length c.rc, .slice c.pa c.pl.length c.pc, .slice c.na c.nl.length c.nc, .slice c.sa c.sl.length c.sc, .int .i64 c.gate, .int .i64 c.quota]
def pM (cats : Int) (g : Int × Int × Int) : Bool := !(gL g.1 cats && decide (1 ≤ g.2.1 ∧ g.2.1 ≤ 8 ∧ 0 ≤ g.2.2 ∧ g.2.2 ≤ 8 - g.2.1))
theorem xU {cats g} : pM cats g = false ↔ gL g.1 cats = true ∧ 1 ≤ g.2.1 ∧ g.2.1 ≤ 8 ∧ 0 ≤ g.2.2 ∧ g.2.2 ≤ 8 - g.2.1 := by
 grind [pM]
theorem sV {cats g} (h : ¬ (gL g.1 cats = true ∧ 1 ≤ g.2.1 ∧ g.2.1 ≤ 8 ∧ 0 ≤ g.2.2 ∧ g.2.2 ≤ 8 - g.2.1)) : pM cats g = true := by
 grind [xU]
theorem YH W0 b1 c (hs : ∀ A, cG (aQ W0 A) c.ga 3 ig c.gl) :
    WF W0 257 [pQ b1] c.gl.length (fun _ => cv [pt b1 (ag (dC c) 30)]) (fun i => pM c.cats (c.gl.getD i (0, 0, 0))) := ⟨call257, fun i hi R => by
 refine pD ?_
 simp only [Qay, Qaw]
 obtain ⟨cats, ga, gc, gl, ra, rc, rl, pa, pc, pl, na, nc, nl, sa, sc, sl, gate, quota⟩ := c
 dsimp only at hs hi ⊢
 obtain ⟨g, o, rfl, hc⟩ := (hs (pt b1 (ag (dC ⟨cats, ga, gc, gl, ra, rc, rl, pa, pc, pl, na, nc, nl, sa, sc, sl, gate, quota⟩) 30) :: R)).at_ hi
 obtain ⟨x, hx⟩ : ∃ x, gl[i] = x := ⟨_, rfl⟩
 rw [show gl.getD i (0, 0, 0) = x by simp [List.getD, hi, hx]]
 rw [hx] at hc
 refine am func257 ntmps257 ?_
 refine aa (bJ hi) ?_
 refine aa (df hc.weak) ?_
 refine bj fun bx => ?_
 refine fh (fN l9 rfl rfl rfl rfl rfl) ?_
 rintro _ _ rfl
 refine aL (aH (aO (mz (aO (aX ?_)))))
 refine ae rfl (d5 rfl my rfl aR rfl (by first | exact Qac _ | rfl)) ?_
 refine ae rfl (cu di rfl (aI rfl)) ?_
 refine ae rfl (d5 rfl Cc rfl aR rfl (by first | exact Qac _ | rfl)) ?_
 refine ae rfl (cu di rfl (aI rfl)) ?_
 refine aD rfl (iE Od rfl (Ej x.1 cats)) ?_
 rintro _ B_ ⟨rfl, hB_⟩
 obtain rfl := hB_.symm
 refine ae rfl (rn rfl) (ae rfl (bA rfl) (aL (aH ?_)))
 refine aA rfl ?_ ?_
 intro c2
 refine aw ?_
 refine ac ?_
 rw [sV (fun q => by simp_all)]
 exact ao
 intro c2
 refine aO (aO (aX ?_))
 refine ae rfl (d5 rfl my rfl aR rfl (by first | exact Qac _ | rfl)) ?_
 refine ae rfl (cu di rfl (aI rfl)) ?_
 refine ae rfl (nu rfl rfl) (ae rfl (bA rfl) (aL (aH ?_)))
 refine aA rfl ?_ ?_
 intro c4
 refine aw ?_
 refine ac ?_
 rw [sV (fun q => by omega)]
 exact ao
 intro c4
 refine aX ?_
 refine ae rfl (d5 rfl my rfl aR rfl (by first | exact Qac _ | rfl)) ?_
 refine ae rfl (cu di rfl (aI rfl)) ?_
 refine ae rfl (tQ rfl rfl) (ae rfl (bA rfl) (aL (aH ?_)))
 refine aA rfl ?_ ?_
 intro c5
 refine aw ?_
 refine ac ?_
 rw [sV (fun q => by omega)]
 exact ao
 intro c5
 refine jd (oI (aH (aO (aX ?_))))
 refine ae rfl (d5 rfl my rfl aR rfl (by first | exact Qac _ | rfl)) ?_
 refine ae rfl (cu di rfl (aI rfl)) ?_
 refine ae rfl (nu rfl rfl) (ae rfl (aM rfl) ?_)
 refine cy rfl rfl rfl ?_ ?_
 intro g7_4
 refine aw ?_
 refine ac ?_
 first
   | (rw [sV (fun q => by omega)]; exact ⟨_, ⟨rfl, rfl⟩, inferInstance⟩)
   | (refine ⟨_, ⟨?_, rfl⟩, IO⟩
      refine Qai Value.bool ?_
      rw [Qag, Qak]
      constructor
      · grind [sV]
      intro q
      apply Decidable.byContradiction
      intro q2
      rw [xU.2 ⟨by simp_all, by omega, by omega, by omega, by omega⟩] at q; cases q)
 intro g7_4
 refine ae rfl (d5 rfl my rfl aR rfl (by first | exact Qac _ | rfl)) ?_
 refine cI rfl rfl (ae rfl (cu di rfl (aI rfl)) ?_)
 refine cI rfl rfl ?_
 refine ae rfl (d5 rfl my rfl aR rfl (by first | exact Qac _ | rfl)) ?_
 refine cI rfl rfl (ae rfl (cu di rfl (aI rfl)) ?_)
 refine cI rfl rfl ?_
 refine ae rfl (lg rfl rfl (co (by omega))) ?_
 refine cI rfl rfl (ae rfl (tQ rfl rfl) (ae rfl (iu rfl rfl) (ae rfl (bA rfl) (aL (aH (dE (ac ?_)))))))
 first
   | (rw [sV (fun q => by omega)]; exact ⟨_, ⟨rfl, rfl⟩, inferInstance⟩)
   | (refine ⟨_, ⟨?_, rfl⟩, IO⟩
      refine Qai Value.bool ?_
      rw [Qag, Qak]
      constructor
      · grind [sV]
      · intro q
        apply Decidable.byContradiction
        intro q2
        rw [xU.2 ⟨by simp_all, by omega, by omega, by omega, by omega⟩] at q; cases q)
 ⟩
theorem AF fn cs n b o w (a : WF W0 fn cs n (fun _ => cv [pt b o]) w) (c : n ≤ 1000) : sP W0 256 [iQ n, .func (.func fn) #[] cs.toArray] (pt b o :: R) (fun v B => ∃ r, v = .tuple #[iQ r, .bool (mV w n)] ∧ B = R) :=
  ub (B := kH 0 (cv [pt b o]) :: R) (so (A := [pt b o])) (Ji fn cs n (fun _ => cv [pt b o]) w a c)
def kD (c : Cfg) : Bool := decide (c.gl.length < 1 ∨ 4 < c.gl.length) || mV (fun i => pM c.cats (c.gl.getD i (0, 0, 0))) c.gl.length
theorem YI c (g : ∀ A, cG (aQ W0 A) c.ga 3 ig c.gl) : sP W0 179 [.agg (dC c).toArray] R (fun v B => ∃ r, v = .tuple #[iQ r, .bool (kD c)] ∧ B = R) := by
 obtain ⟨w, f⟩ : ∃ w, (fun i => pM c.cats (c.gl.getD i (0, 0, 0))) = w := ⟨_, rfl⟩
 have b : kD c = (decide (c.gl.length < 1 ∨ 4 < c.gl.length) || mV w c.gl.length) := by rw [kD, f]
 refine am func179 ntmps179 ?_
 refine bz fun d => ?_
 refine cz (fun a => ?_) fun a => ?_
 refine az ?_
 rw [b, Qah (by omega), Qbv]
 exact ⟨_, ⟨0, rfl, rfl⟩, IO⟩
 refine ai (fun h => ?_) fun h => ?_
 refine az ?_
 rw [b, Qah (by omega), Qbv]
 exact ⟨_, ⟨0, rfl, rfl⟩, IO⟩
 refine aD rfl (ap Cs (AF 257 [pQ d] c.gl.length d _ w (f ▸ YH W0 d c g) (by omega))) ?_
 rintro _ j ⟨r, rfl, e⟩
 obtain rfl := e.symm
 refine aw ?_
 refine az ?_
 rw [b, Qal (by omega), Qbs]
 exact ⟨_, ⟨r, rfl, rfl⟩, IO⟩
def ii (c : Cfg) (i : Int) : Bool := decide (0 ≤ i ∧ i < c.gl.length)
theorem uv c i : sQ W0 263 [.agg (dC c).toArray, iQ i] R (.bool (ii c i)) R := by
 refine am func263 ntmps263 ?_
 refine bz fun b => ?_
 refine bO (fun a => ?_) fun a => ?_
 refine ac ?_
 refine aG ?_
 refine Qai Value.bool ?_
 rw [Qag, ii, Qak]
 first
   | (rw [Qak]; constructor
      · intro q; omega
      · intro q; omega)
   | (constructor
      · intro q; first | omega | (cases q)
      intro q; omega)
 refine ac ?_
 refine aG ?_
 refine Qai Value.bool ?_
 rw [Qag, ii, Qak]
 first
   | (rw [Qak]; constructor
      · intro q; omega
      · intro q; omega)
   | (constructor
      · intro q; first | omega | (cases q)
      intro q; omega)
@[reducible] def jk (x : Int × Int) : List Value := [.int .i64 x.1, .int .i64 x.2]
def oY (c : Cfg) (s : Int × Int) : Bool := !(ii c s.1 && decide (1 ≤ s.2 ∧ s.2 ≤ 32))
theorem YJ W0 b1 c (e : ∀ A, cG (aQ W0 A) c.sa 2 jk c.sl) :
    WF W0 267 [pQ b1] c.sl.length (fun _ => cv [pt b1 (ag (dC c) 30)]) (fun i => oY c (c.sl.getD i (0, 0))) := ⟨call267, fun i d R => by
 refine pD ?_
 simp only [Qay, Qaw]
 obtain ⟨g, o, hga, hc⟩ := (e (pt b1 (ag (dC c) 30) :: R)).at_ d
 obtain ⟨x, hx⟩ : ∃ x, c.sl[i] = x := ⟨_, rfl⟩
 rw [show c.sl.getD i (0, 0) = x by simp [List.getD, d, hx]]
 rw [hx] at hc
 obtain ⟨w, hw⟩ : ∃ w, ii c x.1 = w := ⟨_, rfl⟩
 have f : oY c x = !(w && decide (1 ≤ x.2 ∧ x.2 ≤ 32)) := by rw [oY, hw]
 rw [f]
 obtain ⟨cats, ga, gc, gl, ra, rc, rl, pa, pc, pl, na, nc, nl, sa, sc, sl, gate, quota⟩ := c
 dsimp only at e d hga hc hw ⊢
 subst hga
 refine am func267 ntmps267 ?_
 refine aa (bJ d) ?_
 refine aa (df hc.weak) ?_
 refine bj fun h => ?_
 refine ar aF ?_
 refine ah (aC wO (uv ⟨cats, ga, gc, gl, ra, rc, rl, pa, pc, pl, na, nc, nl, some ⟨g, o, none⟩, sc, sl, gate, quota⟩ x.1)) ?_
 rw [hw]
 refine cy rfl rfl rfl ?_ ?_
 intro b
 refine aw ?_
 refine ac ?_
 refine aG ?_
 refine Qai Value.bool ?_
 rw [Qag]
 cases w <;> simp_all <;> omega
 intro b
 refine aw ?_
 refine cy rfl rfl rfl ?_ ?_
 intro a
 refine aw ?_
 refine ac ?_
 refine aG ?_
 refine Qai Value.bool ?_
 rw [Qag]
 cases w <;> simp_all <;> omega
 intro a
 refine aw ?_
 refine ac ?_
 refine aG ?_
 refine Qai Value.bool ?_
 rw [Qag]
 cases w <;> simp_all <;> omega
 ⟩
def od (c : Cfg) : Bool := decide (c.sl.length < 1 ∨ 8 < c.sl.length) || mV (fun i => oY c (c.sl.getD i (0, 0))) c.sl.length
theorem YK c (g : ∀ A, cG (aQ W0 A) c.sa 2 jk c.sl) : sP W0 183 [.agg (dC c).toArray] R (fun v B => ∃ r, v = .tuple #[iQ r, .bool (od c)] ∧ B = R) := by
 obtain ⟨w, f⟩ : ∃ w, (fun i => oY c (c.sl.getD i (0, 0))) = w := ⟨_, rfl⟩
 have b : od c = (decide (c.sl.length < 1 ∨ 8 < c.sl.length) || mV w c.sl.length) := by rw [od, f]
 refine am func183 ntmps183 ?_
 refine bz fun d => ?_
 refine cz (fun a => ?_) fun a => ?_
 refine az ?_
 rw [b, Qah (by omega), Qbv]
 exact ⟨_, ⟨0, rfl, rfl⟩, IO⟩
 refine ai (fun h => ?_) fun h => ?_
 refine az ?_
 rw [b, Qah (by omega), Qbv]
 exact ⟨_, ⟨0, rfl, rfl⟩, IO⟩
 refine aD rfl (ap Cs (AF 267 [pQ d] c.sl.length d _ w (f ▸ YJ W0 d c g) (by omega))) ?_
 rintro _ j ⟨r, rfl, e⟩
 obtain rfl := e.symm
 refine aw ?_
 refine az ?_
 rw [b, Qal (by omega), Qbs]
 exact ⟨_, ⟨r, rfl, rfl⟩, IO⟩
def mW (c : Cfg) : Bool := if c.gate = -1 then decide (c.quota ≠ 0) else !(ii c c.gate && decide (0 ≤ c.quota ∧ c.quota ≤ 64))
theorem YL c : sQ W0 184 [.agg (dC c).toArray] R (.bool (mW c)) R := by
 obtain ⟨w, a⟩ : ∃ w, ii c c.gate = w := ⟨_, rfl⟩
 have b : mW c = if c.gate = -1 then decide (c.quota ≠ 0) else !(w && decide (0 ≤ c.quota ∧ c.quota ≤ 64)) := by rw [mW, a]
 rw [b]
 refine am func184 ntmps184 ?_
 refine bz fun h => ?_
 refine ai (fun d => ?_) fun d => ?_
 refine ac ?_
 refine aG ?_
 refine Qai Value.bool ?_
 rw [Qag]
 cases w <;> simp_all <;> omega
 refine ah (aC wO (uv c c.gate)) ?_
 rw [a]
 refine ai (fun e => ?_) fun e => ?_
 refine ac ?_
 refine aG ?_
 refine Qai Value.bool ?_
 rw [Qag]
 cases w <;> simp_all <;> omega
 refine ai (fun f => ?_) fun f => ?_
 refine ac ?_
 refine aG ?_
 refine Qai Value.bool ?_
 rw [Qag]
 cases w <;> simp_all <;> omega
 refine ai (fun g => ?_) fun g => ?_
 refine ac ?_
 refine aG ?_
 refine Qai Value.bool ?_
 rw [Qag]
 cases w <;> simp_all <;> omega
 refine ac ?_
 refine aG ?_
 refine Qai Value.bool ?_
 rw [Qag]
 cases w <;> simp_all <;> omega
def kR (c : Cfg) (i : Int) : Int := (c.gl.getD i.toNat (0, 0, 0)).1
def nJ (c : Cfg) (x : Int × Int) : Bool := !(ii c x.1 && ii c x.2 && decide (x.1 ≠ x.2) && oX (kR c x.1) (kR c x.2))
theorem YM W0 b1 c (y : ∀ A, cG (aQ W0 A) c.na 2 jk c.nl) (f : ∀ A, cG (aQ W0 A) c.ga 3 ig c.gl) :
    WF W0 265 [pQ b1] c.nl.length (fun _ => cv [pt b1 (ag (dC c) 30)]) (fun i => nJ c (c.nl.getD i (0, 0))) := ⟨call265, fun i e R => by
 refine pD ?_
 simp only [Qay, Qaw]
 obtain ⟨g, o, hga, hc⟩ := (y (pt b1 (ag (dC c) 30) :: R)).at_ e
 obtain ⟨x, hx⟩ : ∃ x, c.nl[i] = x := ⟨_, rfl⟩
 rw [show c.nl.getD i (0, 0) = x by simp [List.getD, e, hx]]
 rw [hx] at hc
 obtain ⟨p, q⟩ := x
 obtain ⟨w1, hw1⟩ : ∃ w, ii c p = w := ⟨_, rfl⟩
 obtain ⟨w2, hw2⟩ : ∃ w, ii c q = w := ⟨_, rfl⟩
 have s : nJ c (p, q) = !(w1 && w2 && decide (p ≠ q) && oX (kR c p) (kR c q)) := by grind [nJ]
 by_cases z : w1 = true ∧ w2 = true
 obtain ⟨rfl, rfl⟩ := z
 have C : 0 ≤ p ∧ p < c.gl.length := Qar hw1
 have D : 0 ≤ q ∧ q < c.gl.length := Qar hw2
 obtain ⟨j, rfl⟩ : ∃ j : Nat, p = (j : Int) := ⟨p.toNat, by omega⟩
 obtain ⟨k, rfl⟩ : ∃ k : Nat, q = (k : Int) := ⟨q.toNat, by omega⟩
 have h : j < c.gl.length := by omega
 have l : k < c.gl.length := by omega
 obtain ⟨u, hu⟩ : ∃ u, c.gl[j] = u := ⟨_, rfl⟩
 obtain ⟨v, hv⟩ : ∃ v, c.gl[k] = v := ⟨_, rfl⟩
 have m : kR c (j : Int) = u.1 := by grind [kR]
 have n : kR c (k : Int) = v.1 := by grind [kR]
 rw [m, n] at s
 rw [s]
 obtain ⟨gg, og, hgg, hcj⟩ := (f (pt b1 (ag (dC c) 30) :: R)).at_ h
 obtain ⟨gh, oh, hgh, hck⟩ := (f (pt b1 (ag (dC c) 30) :: R)).at_ l
 rw [hu] at hcj
 rw [hv] at hck
 obtain ⟨cats, ga, gc, gl, ra, rc, rl, pa, pc, pl, na, nc, nl, sa, sc, sl, gate, quota⟩ := c
 dsimp only at e hga hc hw1 hw2 h l hgg hgh hcj hck ⊢
 subst hga
 subst hgg
 obtain ⟨rfl, rfl⟩ : gg = gh ∧ og = oh := by grind
 refine am func265 ntmps265 ?_
 refine aa (bJ e) ?_
 refine aa (df hc.weak) ?_
 refine bj fun t => ?_
 refine ar aF ?_
 refine ah (aC wO (uv ⟨cats, some ⟨gg, og, none⟩, gc, gl, ra, rc, rl, pa, pc, pl, some ⟨g, o, none⟩, nc, nl, sa, sc, sl, gate, quota⟩ (j : Int))) ?_
 rw [hw1]
 refine cz (fun b => ?_) fun b => ?_
 exact absurd rfl b
 refine ah (aC wO (uv ⟨cats, some ⟨gg, og, none⟩, gc, gl, ra, rc, rl, pa, pc, pl, some ⟨g, o, none⟩, nc, nl, sa, sc, sl, gate, quota⟩ (k : Int))) ?_
 rw [hw2]
 refine cz (fun a => ?_) fun a => ?_
 exact absurd rfl a
 refine ai (fun B => ?_) fun B => ?_
 refine ac ?_
 refine aG ?_
 refine Qai Value.bool ?_
 rw [Qag]
 simp_all
 refine fj [(b1, 0, _), (t, 0, _), (gg, og + j * 3, ig u), (gg, og + k * 3, ig v)] 17 mixed rfl (bQ (bQ (bU hcj.weak (bU hck.weak bH)))) (fun d => ?_)
 refine aj 0 4 d ?_
 refine ax 4 d (bJ h) ?_
 refine aj 5 1 d ?_
 refine ax 6 d (aE (kJ (k := 2) (j := 0) rfl rfl)) ?_
 refine aj 7 4 d ?_
 refine ax 11 d (bJ l) ?_
 refine aj 12 1 d ?_
 refine ax 13 d (aE (kJ (k := 3) (j := 0) rfl rfl)) ?_
 refine gy 14 rfl rfl (aC call266 (Yc u.1 v.1)) (bQ (bQ (bU hcj.weak (bU hck.weak bH)))) fun d => ?_
 refine aj 15 2 d ?_
 refine aJ ?_
 refine ac ?_
 refine aG ?_
 refine Qai Value.bool ?_
 rw [Qag]
 simp_all
 have r : nJ c (p, q) = true := by
  grind
 rw [r]
 obtain ⟨cats, ga, gc, gl, ra, rc, rl, pa, pc, pl, na, nc, nl, sa, sc, sl, gate, quota⟩ := c
 dsimp only at e hga hc hw1 hw2 ⊢
 subst hga
 refine am func265 ntmps265 ?_
 refine aa (bJ e) ?_
 refine aa (df hc.weak) ?_
 refine bj fun t => ?_
 refine ar aF ?_
 refine ah (aC wO (uv ⟨cats, ga, gc, gl, ra, rc, rl, pa, pc, pl, some ⟨g, o, none⟩, nc, nl, sa, sc, sl, gate, quota⟩ p)) ?_
 rw [hw1]
 refine cy rfl rfl rfl ?_ ?_
 intro b
 refine aw ?_
 exact ac ao
 intro b
 refine aw ?_
 refine ah (aC wO (uv ⟨cats, ga, gc, gl, ra, rc, rl, pa, pc, pl, some ⟨g, o, none⟩, nc, nl, sa, sc, sl, gate, quota⟩ q)) ?_
 rw [hw2]
 refine cy rfl rfl rfl ?_ ?_
 intro a
 refine aw ?_
 exact ac ao
 intro a
 exfalso; cases w1 <;> cases w2 <;> simp_all
 ⟩
def jA (c : Cfg) : Bool := decide (4 < c.nl.length) || mV (fun i => nJ c (c.nl.getD i (0, 0))) c.nl.length
theorem YN c (g : ∀ A, cG (aQ W0 A) c.na 2 jk c.nl) (a : ∀ A, cG (aQ W0 A) c.ga 3 ig c.gl) : sP W0 182 [.agg (dC c).toArray] R (fun v B => ∃ r, v = .tuple #[iQ r, .bool (jA c)] ∧ B = R) := by
 obtain ⟨w, e⟩ : ∃ w, (fun i => nJ c (c.nl.getD i (0, 0))) = w := ⟨_, rfl⟩
 have f : jA c = (decide (4 < c.nl.length) || mV w c.nl.length) := by rw [jA, e]
 refine am func182 ntmps182 ?_
 refine bz fun b => ?_
 refine ai (fun h => ?_) fun h => ?_
 refine az ?_
 rw [f, Qah (by omega), Qbv]
 exact ⟨_, ⟨0, rfl, rfl⟩, IO⟩
 refine aD rfl (ap Cs (AF 265 [pQ b] c.nl.length b _ w (e ▸ YM W0 b c g a) (by omega))) ?_
 rintro _ j ⟨r, rfl, d⟩
 obtain rfl := d.symm
 refine aw ?_
 refine az ?_
 rw [f, Qal (by omega), Qbs]
 exact ⟨_, ⟨r, rfl, rfl⟩, IO⟩
def gn (c : Cfg) : Nat → Int
 | 0 => (c.nl.length : Int)
 | i + 1 => gn c i + ((c.gl.getD i (0, 0, 0)).2.1 + (c.gl.getD i (0, 0, 0)).2.2)
theorem Ek {c} (a : ∀ g ∈ c.gl, 1 ≤ g.2.1 ∧ g.2.1 ≤ 8 ∧ 0 ≤ g.2.2 ∧ g.2.2 ≤ 8 - g.2.1) (b : c.nl.length ≤ 4) : ∀ i, i ≤ c.gl.length → 0 ≤ gn c i ∧ gn c i ≤ 4 + 8 * i
 | 0, _ => by rw [gn]; omega
 | i + 1, d => by
  obtain ⟨e, f⟩ := Ek a b i (by omega)
  have := a _ (QaG (show i < c.gl.length by omega))
  rw [gn, show c.gl.getD i (0, 0, 0) = c.gl[i]'(by omega) by simp [List.getD, show i < c.gl.length by omega]]
  omega
theorem YO c (l : ∀ A, cG (aQ W0 A) c.ga 3 ig c.gl) (h : ∀ g ∈ c.gl, 1 ≤ g.2.1 ∧ g.2.1 ≤ 8 ∧ 0 ≤ g.2.2 ∧ g.2.2 ≤ 8 - g.2.1) (m : c.nl.length ≤ 4) (r : c.gl.length ≤ 4) : sQ W0 69 [.agg (dC c).toArray] R (iQ (gn c c.gl.length)) R := by
 have b := Ek h m
 refine am func69 ntmps69 ?_
 refine bz fun s => ?_
 refine d4 (fun i : Nat => i ≤ c.gl.length) (fun i => [(3, iQ (gn c i)), (10, .slice c.ga c.gl.length c.gc), (11, iQ (c.gl.length : Nat)), (12, iQ (i : Nat))]) (fun _ => R) (fun i => c.gl.length - i) 0 ?_ ?_
 omega
 intro i n
 refine aw ?_
 refine ai (fun p => ?_) fun p => ?_
 have a : i < c.gl.length := by omega
 obtain ⟨g, o, d, j⟩ := (l R).at_ a
 obtain ⟨x, k⟩ : ∃ x, c.gl[i] = x := ⟨_, rfl⟩
 rw [k] at j
 have e := h _ (QaG a)
 rw [k] at e
 have f : gn c (i + 1) = gn c i + (x.2.1 + x.2.2) := by grind [gn]
 have q := b i n
 rw [d]
 refine aa (bJ a) ?_
 refine aa (df j.weak) ?_
 refine bj fun t => ?_
 refine fh (fN l9 rfl rfl rfl rfl rfl) ?_
 rintro _ _ rfl
 refine aL (aH (aX (ae rfl (aM rfl) ?_)))
 refine ae rfl (d5 rfl my rfl aR rfl (by first | exact Qac _ | rfl)) ?_
 refine ae rfl (cu di rfl (aI rfl)) ?_
 refine ae rfl (d5 rfl my rfl aR rfl (by first | exact Qac _ | rfl)) ?_
 refine ae rfl (cu di rfl (aI rfl)) ?_
 refine ae rfl (db rfl rfl (co (by omega))) ?_
 refine aa (db rfl rfl (by rw [co (by omega)]; exact f.symm : IntKind.wrap .i64 (gn c i + (x.2.1 + x.2.2)) = gn c (i + 1))) ?_
 refine aa bY ?_
 exact bR (i + 1) (by omega)
 refine ac ?_
 obtain rfl : i = c.gl.length := by omega
 exact ao
section
variable {rd : Option Nat} {P : Program} {S : World → Prop} {W0 : World} {N : FSz} {Q : Exit → Act → World → Prop} {e : b0} {A B R R1 R2 : List HP} {ops : Array Oper} {rest : List Oper}
variable {op : Op} {ty t t' : TypeId} {pos : String} {af : Array Edge} {v u : Value} {d b off : Nat} {x y z : Operand} {l l' vs : List Value}
theorem AG {z n} : (Builtin.zeroCells z n).toList.length = n * z.size := by simp [Builtin.zeroCells]
theorem YP {E sz n k c by_ : Nat} {info zz an olds kk kq kn} (K : P.underlying t = some (.slice E)) (r : P.underlying t' = some (.int kn))
    (L : P.info? E = some info) (M : info.zero = some zz) (s : info.size = sz) (z : info.bytes = by_) (b : zz.cells.size = sz) (d : 0 < sz)
    (O : ev e x = some (.slice an n c)) (Q : ev e y = some (.int kq kk)) (R : kk = k) (f : (an = none ∧ olds = []) ∨ ∃ o p, an = some ⟨o, p, none⟩ ∧ bC (aQ W0 A) o p olds) (h : olds.length = n * sz)
    (S : 0 < k) (T : c < n + k) (i : n + k ≤ maxLen) (l : (n + k) * by_ ≤ 140737488355328) :
    cZ P W0 N e A (.call { callee := .builtin .append, args := #[x, y], argTypes := #[t, t'] }) (fun v B => ∃ U V H, v = .slice U (n + k) V ∧ H.length = k * sz ∧ B = osl E sz v (olds ++ H) :: A) := vk fun a w W X Y af g I J => by
 subst R
 subst s
 subst z
 have q : n + k ≤ 9223372036854775807 := by simp only [maxLen] at i; omega
 have C : (Builtin.firstCells info.size n (.slice an n c)).run P w.drew = .ok olds.toArray w.drew := by
  rcases f with ⟨rfl, rfl⟩ | ⟨o, p, rfl, Z⟩
  simp [Builtin.firstCells]
  exact run_firstCells_some (P := P) w.drew info.size n ⟨o, p, none⟩ n c olds h (fun j u hj => by
   have := Z j u hj w J
   simpa [jr] using this)
 have D : k * info.bytes ≤ 281474976710656 := by
  grind
 have hr := Go.Lib.run_append_grow_zeros (P := P) w t t' X E info zz kq kn K r L M an n c olds C k S d T (by omega) D (growslice_fits (by omega) l)
 have F := grownCap_ge w (n + k) c E
 have G := grownCap_le_maxLen w (n + k) c E i
 have m := (Own.drew J (w.drawn + 1)).new (ag ((olds ++ (Builtin.zeroCells zz.cells k).toList) ++ (Builtin.zeroCells zz.cells (grownCap w (n + k) c E - (n + k))).toList) E)
 have ea : ((olds ++ (Builtin.zeroCells zz.cells k).toList) ++ (Builtin.zeroCells zz.cells (grownCap w (n + k) c E - (n + k))).toList).toArray = olds.toArray ++ Builtin.zeroCells zz.cells k ++ Builtin.zeroCells zz.cells (grownCap w (n + k) c E - (n + k)) := by grind
 refine ⟨_, { ({ w with drawn := w.drawn + 1 } : World) with heap := w.heap.push (ag ((olds ++ (Builtin.zeroCells zz.cells k).toList) ++ (Builtin.zeroCells zz.cells (grownCap w (n + k) c E - (n + k))).toList) E) }, _, .inl ?_, ⟨some ⟨w.heap.size, 0, none⟩, grownCap w (n + k) c E, (Builtin.zeroCells zz.cells k).toList, rfl, by rw [AG, b], rfl⟩, ?_⟩
 simp only [execOp, resolve, invoke, builtin, Sem.run_bind, Sem.run_pure, Result.andThen_ok, QcA, QaL, Qch, I.eval O, I.eval Q, hr]
 simp only [World.drew, World.alloc, ag, ea]
 refine m.ent ?_
 exact @fk _ A A E info.size w.heap.size (n + k) (grownCap w (n + k) c E) (olds ++ (Builtin.zeroCells zz.cells k).toList) _ _ F G (by grind [Qaf, AG]) (by
   rw [Qaf, Qaf, h, AG, AG, b, ← Nat.add_mul, ← Nat.add_mul]; congr 1; omega) _
theorem YQ {f xs ats} (b : fK e xs.toList = some vs) (c : ∀ w, S w → (callFunc f vs.toArray).run P w = .ok (.value v) w) : bP P S N e (.call { callee := .value (.func f), args := xs, argTypes := ats }) v := fun a w d l h m g i j => by
 rw [execOp_call_go]
 have k : (#[] ++ xs.map a.eval ++ #[] : Array Value) = vs.toArray := by
  have := i.evals b
  rw [← this]; apply Qdc; simp
 rw [k, c w j]
theorem YR {n c a} (b : P.underlying t = some (.slice d)) (f : ev e x = some (.slice a n c)) : bP P S N e (.call { callee := .builtin .cap, args := #[x], argTypes := #[t] }) (iQ c) := fun g w _ _ _ _ _ h _ => by
 simp [execOp, resolve, invoke, builtin, h.eval f, Builtin.cap_, eV b, goInt]
theorem AH {p q s r} (h : q.length = r.length) : d7 (p ++ q ++ s) p.length r = p ++ r ++ s := by
 grind [su]
theorem Jj {g o l1 l2} (h : bC S g o (l1 ++ l2)) : bC S g o l1 := fun i v a => h i v (by
  rw [QaA (by
    rcases QaC i l1.length with q | q
    · exact q
    rw [Qbl q] at a; cases a)]
  exact a)
theorem YS {g o l1 l2} (h : bC S g o (l1 ++ l2)) : bC S g (o + l1.length) l2 := fun i v a => by
 rw [QbY]
 exact h (l1.length + i) v (by grind)
theorem Jk {l1 l2 l3 o} [h : Tk pt b A (ag l ty) R] (a : l = l1 ++ l2 ++ l3) (c : l1.length = o) : bC (aQ W0 A) b o l2 := by
 subst c
 have d : bC (aQ W0 A) b 0 (l1 ++ l2) := Jj (l2 := l3) (by rw [← a]; exact ee (ty := ty) (R := R) (h := h))
 have := YS d
 rwa [Qac] at this
theorem YT {E h : Nat} {c tR ba ga na ca nb cb oa ob : Nat} {la lb ta tb} (i : P.underlying c = some (.slice E)) (j : ∀ w, (sizeOf E).run P w = .ok h w) [u : Tk pt ba A (ag la ta) R1] [k : Tk pt ga R1 (ag lb tb) R2] (l : oa ≤ la.length) (m : 0 < lb.length) {w} (n : Own W0 w A) :
    (Extern.SlicesOverlaps.overlaps #[c, c] #[tR] #[.slice (some ⟨ba, oa, none⟩) na ca, .slice (some ⟨ga, ob, none⟩) nb cb]).run P w = .ok (.bool false) w := by
 have a := n.tk (r := pt) (b := ba)
 have d := a.has.2
 have e := (a.drop).tk (r := pt) (b := ga)
 have o := e.has.2
 have f : ba ≠ ga := by
  intro q; subst q
  have g : Own W0 w (pt ba (ag la ta) :: pt ba (ag lb tb) :: R2) := a.perm (k.perm.cons _)
  obtain ⟨v, ⟨x, y, rfl, p, z, B, rfl, s, _⟩, t, _⟩ := g.owns
  cases p; cases s
  simp at t
 refine Go.Lib.run_overlaps_apart w c tR E i h j ⟨ba, oa, none⟩ ⟨ga, ob, none⟩ na ca nb cb f ta tb la.length lb.length ?_ ?_ (by omega) ?_ ?_
 simp [World.shape?, d]
 simp [World.shape?, o]
 simp [World.frozen?, d]
 simp [World.frozen?, d]
end
class NOut (Q : Exit → Act → World → Prop) : Prop where
  no : ∀ a w, ¬ Q .outgrown a w
instance b0b {n : Act → World → Prop} {Q : Exit → Act → World → Prop} [h : NOut Q] : NOut (Exit.then n Q) := ⟨fun a w k => h.no a w k⟩
instance b0c {id : Nat} {Q : Exit → Act → World → Prop} [h : NOut Q] : NOut (Exit.inBlock id Q) := ⟨fun a w k => h.no a w k⟩
instance b0d {P : Program} {W0 : World} {L : Nat} {Post : Value → List HP → Prop} : NOut (vw P W0 L Post) := ⟨fun a w k => k⟩
instance b0e {P : Program} {W0 : World} {L : Nat} {Post : Value → List HP → Prop} : POk (vw P W0 L Post) := ⟨fun c a d v w k => k.elim⟩
section
variable {rd : Option Nat} {P : Program} {W0 : World} {N : FSz} {Q : Exit → Act → World → Prop} {e : b0} {A : List HP} {ops : Array Oper} {S : World → Prop}
theorem AI (f : tO rd ops.toList = true) (j : NOut Q) : ∀ (b : Nat) (c : Array Bool) (a : Act) (w : World), wpAnyH P .any ops Q S b c a w → wpAnyIn (FW rd) 0 P .any ops Q b c a w
 | 0, _, _, _, h => h
 | b + 1, c, a, w, h => ⟨h.1, fun i p => by
  have e := h.2 i p
  unfold wpOp at e
  unfold wpOpIn
  cases k : ops[i]? with
  | none =>
   rw [k] at e
   exact AI f j b _ a w e.2
  | some o =>
   rw [k] at e
   simp only at e ⊢
   split at e
   rename_i d
   rw [Qad d]
   rcases e with e | ⟨_, m, n, h3⟩
   have g : o.semAt (FW rd).round a.eval = execOp a.eval o := by
    cases rd with
    | none => rfl
    | some l =>
     refine Oper.semAt_eq _ _ _ (Hc ?_)
     simp only [tO, Option.isNone_some, Qbs, QbW] at f
     exact f _ (by
       obtain ⟨hlt, rfl⟩ := Array.getElem?_eq_some_iff.1 k
       simp)
   refine ⟨fun _ _ => trivial, ?_⟩
   rw [g]
   exact Hb (fun m n q => AI f j b _ m n q.2) e
   exact absurd h3 (j.no m n)
   rename_i d
   rw [Qaa d]
   exact ⟨fun _ _ => trivial, AI f j b _ _ w e.2⟩⟩
theorem YU {c : Nat} (b : List (Nat × Nat × List Value)) (n : Nat) (d : P.follows .mixedOrders = true) (f : Nat.beq ops.size n = true) [g : NOut Q] (h : ∀ w, Own W0 w A → SC b w) (k : (∀ w, Own W0 w A → SC b w) → av W0 N (DR P ops Q b n (Array.replicate n false)) e A) (i : tO rd ops.toList = true := by rfl) : av W0 N ((Code.region c ops true).wpR rd P Q) e A := by
 intro a w j l
 have : ops.size = n := Nat.eq_of_beq_eq_true f
 subst this
 exact wpIn_region_any d (AI i g _ _ _ _ (k h a _ j (l.drew _)))
end
abbrev Rn := Int × Int × Int
def cC (x : Rn) : List Value := [.int .i64 x.1, .int .i64 x.2.1, .int .i64 x.2.2]
theorem qE x : (cC x).length = 3 := rfl
theorem El x : fi (cC x) = true := by simp [cC, fi, Value.oneCell']
theorem Em (l : List Rn) : fi (l.flatMap cC) = true := by
 induction l with
 | nil => rfl
 | cons x l a =>
  rw [QaQ, fi, List.all_append, Qao]
  exact ⟨El x, a⟩
@[reducible] def mi (a : Option Addr) (k c : Nat) (n : Int) : Obj := ag [.slice a k c, .int .i64 n, .bool true] 441
def qF (b : Nat) (x : List Rn × Int) : HP := chk (fun C => ∃ a c, C = [pt b (mi a x.1.length c x.2), osl 445 3 (.slice a x.1.length c) (x.1.flatMap cC)])
section
variable {W0 : World} {N : FSz} {K : Act → World → Prop} {e : b0} {A B R R1 R2 : List HP} {b n c : Nat} {x : List Rn × Int}
theorem YV [f : Tk qF b A x R] (h : ∀ a c, av W0 N K e (pt b (mi a x.1.length c x.2) :: osl 445 3 (.slice a x.1.length c) (x.1.flatMap cC) :: R)) : av W0 N K e A :=
  fT (r := qF) (b := b) (nv fun C d => by obtain ⟨a, c, rfl⟩ := d; exact h a c)
theorem rN {rs k m nn a ys} [c : Tk pt b A (mi a k m nn) R1] [d : Tk (osl 445 3) (.slice a k m) R1 ys R2] (e : k = rs.length) (f : ys = rs.flatMap cC) [q : Ent R2 B] : Ent A (qF b (rs, nn) :: B) := by
 subst e; subst f
 exact (Ent.ofPerm (c.perm.trans (d.perm.cons _))).trans ((fH (R := R2) (C := [_, _]) ⟨a, m, rfl⟩).trans (Ent.cons q))
theorem Jl {α : Type} {E sz g c i : Nat} {f} {d : List α} {x ys} [h : Tk (osl E sz) (.slice (some ⟨g, 0, none⟩) n c) A ys R] (j : ys = d.flatMap f) (k : ∀ x, (f x).length = sz) (l : 0 < sz) (m : d[i]? = some x) : bC (aQ W0 A) g (i * sz) (f x) := by
 obtain ⟨b, o, p, e⟩ := Di (S := aQ W0 A) (a := some ⟨g, 0, none⟩) (.inr ⟨g, rfl⟩) (uc (E := E) (sz := sz) (n := n) (c := c) (ys := ys)) k j l i x m
 cases p
 rw [Qac] at e; exact e
end
theorem YW W0 k bt L (d : List Rn) n a c (w : d.length ≤ 1000) (C : Nat → List HP) (I : Nat → Prop) (x : I 0) (e : List HP → Prop) (q : ∀ i R, i < d.length → I i → qk Tryz.prog W0 L [iQ i, .agg (cC (d.getD i (0, 0, 0))).toArray] (C i ++ R) (fun v B => ∃ b h, v = .bool b ∧ B = h ++ R ∧ ((b = true ∧ I (i + 1) ∧ h = C (i + 1)) ∨ (b = false ∧ e h)))) : sP W0 409 [.func (.yield L) #[] #[], pQ k] (pt k (ag [pQ bt] 385) :: pt bt (mi a d.length c n) :: osl 445 3 (.slice a d.length c) (d.flatMap cC) :: C 0) (fun v B => v = .tuple #[] ∧ ∃ h, B = pt bt (mi a d.length c n) :: osl 445 3 (.slice a d.length c) (d.flatMap cC) :: h ∧ ((I d.length ∧ h = C d.length) ∨ e h)) := by
 refine am func409 ntmps409 ?_
 refine d4 (fun i : Nat => i ≤ d.length ∧ I i) (fun i => [(0, .func (.yield L) #[] #[]), (8, .slice a d.length c), (9, iQ (d.length : Nat)), (10, iQ (i : Nat))]) (fun i => pt bt (mi a d.length c n) :: osl 445 3 (.slice a d.length c) (d.flatMap cC) :: C i) (fun i => d.length - i) 0 ?_ ?_
 grind
 intro i ⟨y, p⟩
 refine aw ?_
 refine ai (fun r => ?_) fun r => ?_
 have j : i < d.length := by omega
 have l : d[i]? = some (d.getD i (0, 0, 0)) := by grind
 refine sH (E := 445) (sz := 3) (a := a) (c := c) (n := d.length) (ys := d.flatMap cC) (fun s => ?_)
 obtain ⟨g, rfl⟩ := vN s (by rw [← Qcz, cJ qE]; omega)
 refine aw ?_
 refine aa (bJ j) ?_
 refine aa (df (Jl (f := cC) (E := 445) (sz := 3) (n := d.length) (c := c) rfl qE (by decide) l)) ?_
 refine bj fun k => ?_
 refine fh (fN ke rfl rfl rfl rfl rfl) ?_
 rintro _ _ rfl
 refine aL (aH (aO (aX (ae rfl (aM rfl) (ae rfl (aM rfl) (ae rfl (pB Ns ke rfl rfl) ?_))))))
 refine Db rfl rfl rfl (Df (QaX (l₁ := [_, _, _])) (q i [_, _, _] j p)) ?_
 rintro _ z ⟨b, h, rfl, m, A⟩
 obtain rfl := m.symm
 refine pX QaX ?_
 simp only [Qay, Qaw]
 refine aw ?_
 refine ai (fun t => ?_) fun t => ?_
 have o : e h := by
  grind
 refine bX (.inl rfl) .nil ?_
 exact ⟨_, ⟨rfl, _, rfl, .inr o⟩, IO⟩
 have o : I (i + 1) ∧ h = C (i + 1) := by
  grind
 obtain ⟨u, rfl⟩ := o
 refine aa bY ?_
 refine bR (i + 1) ?_
 grind
 refine bX (.inr rfl) .nil ?_
 obtain rfl : i = d.length := by omega
 exact ⟨_, ⟨rfl, _, rfl, .inl ⟨p, rfl⟩⟩, IO⟩
theorem YX bt : sP W0 371 [pQ bt] R (fun v B => ∃ a, v = .func (.func 409) #[] #[pQ a] ∧ B = pt a (ag [pQ bt] 385) :: R) := by
 refine am func371 ntmps371 ?_
 refine dt (jL rfl rfl) fun a => ?_
 refine ac ?_
 exact ⟨_, ⟨a, rfl, rfl⟩, IO⟩
theorem YY {W0 A e n' L D b1 bt c n a ps' asg body} pe {u g : List HP → Prop} (b : List Rn) (y : b.length ≤ 1000) (h : Nat → List HP) (I : Nat → Prop) (l : List HP → Prop)
    (z : A.Perm (pt b1 (ag [pQ bt] 385) :: pt bt (mi a b.length c n) :: osl 445 3 (.slice a b.length c) (b.flatMap cC) :: h 0)) (E : I 0)
    (m : I b.length → u (pt bt (mi a b.length c n) :: osl 445 3 (.slice a b.length c) (b.flatMap cC) :: h b.length))
    (o : ∀ d, l d → g (pt bt (mi a b.length c n) :: osl 445 3 (.slice a b.length c) (b.flatMap cC) :: d))
    (p : ∀ i q, i < b.length → I i → qk Tryz.prog W0 L [iQ i, .agg (cC (b.getD i (0, 0, 0))).toArray] (dI L ⟨e, n', ps', asg, body, .ready, none, D⟩ :: pt D (.deferred (some [])) :: (h i ++ q))
      (fun v B => (v = .bool true ∧ I (i + 1) ∧ B = dI L ⟨e, n', ps', asg, body, .ready, none, D⟩ :: pt D (.deferred (some [])) :: (h (i + 1) ++ q)) ∨
        (v = .bool false ∧ ∃ d, l d ∧ B = dI L ⟨e, n', ps', asg, body, .done, some pe, D⟩ :: pt D (.deferred (some [])) :: (d ++ q)))) :
    bE Tryz.prog W0 409 (.func (.yield L) #[] #[] :: [pQ b1]) (dI L ⟨e, n', ps', asg, body, .ready, none, D⟩ :: pt D (.deferred (some [])) :: A)
      (fun _ B => (∃ C, B = dI L ⟨e, n', ps', asg, body, .ready, none, D⟩ :: pt D (.deferred (some [])) :: C ∧ u C) ∨ (∃ C, B = dI L ⟨e, n', ps', asg, body, .done, some pe, D⟩ :: pt D (.deferred (some [])) :: C ∧ g C)) := by
 have j : (dI L ⟨e, n', ps', asg, body, .ready, none, D⟩ :: pt D (.deferred (some [])) :: A).Perm (pt b1 (ag [pQ bt] 385) :: pt bt (mi a b.length c n) :: osl 445 3 (.slice a b.length c) (b.flatMap cC) :: (dI L ⟨e, n', ps', asg, body, .ready, none, D⟩ :: pt D (.deferred (some [])) :: h 0)) :=
   ((z.cons _).cons _).trans (List.perm_append_comm_assoc [_, _] [_, _, _] (h 0))
 refine lK j (ge (YW W0 b1 bt L b n a c y (fun i => dI L ⟨e, n', ps', asg, body, .ready, none, D⟩ :: pt D (.deferred (some [])) :: h i) I E
   (fun B => ∃ d, l d ∧ B = dI L ⟨e, n', ps', asg, body, .done, some pe, D⟩ :: pt D (.deferred (some [])) :: d) fun i R r s w F => ?_) ?_)
 obtain ⟨f, k, t, G, H, J⟩ := p i R r s w F
 refine ⟨f, k, t, G, H, RoundIn.mono J ?_⟩
 rintro _ O ⟨v, B, rfl, K, M⟩
 rcases K with ⟨rfl, N, rfl⟩ | ⟨rfl, d, x, rfl⟩
 grind
 grind
 rintro v B ⟨_, P, rfl, ⟨s, rfl⟩ | ⟨d, x, rfl⟩⟩
 exact ⟨_, .inl ⟨_, rfl, m s⟩, Ent.ofPerm (List.perm_append_comm_assoc [_, _] [_, _] (h b.length))⟩
 exact ⟨_, .inr ⟨_, rfl, o d x⟩, Ent.ofPerm (List.perm_append_comm_assoc [_, _] [_, _] d)⟩
theorem YZ x (h : -1000 ≤ x.1 + x.2.1 ∧ x.1 + x.2.1 ≤ 1000) : sQ W0 372 [.agg (cC x).toArray] R (iQ (x.1 + x.2.1)) R := by
 refine am func372 ntmps372 ?_
 refine ez (kg rfl) fun a => ?_
 refine ae rfl (bA rfl) (aL (aH (aO (aX ?_))))
 refine ae rfl (d5 rfl Gw rfl aR rfl (by first | exact Qac _ | rfl)) ?_
 refine ae rfl (cu di rfl (aI rfl)) ?_
 refine ae rfl (d5 rfl Gw rfl aR rfl (by first | exact Qac _ | rfl)) ?_
 refine ae rfl (cu di rfl (aI rfl)) ?_
 refine ae rfl (db rfl rfl (co (by omega))) ?_
 refine ae rfl (bA rfl) (aL (aH (dE ?_)))
 exact ac ao
def kS : List Rn → Int → Nat
 | [], _ => 0
 | x :: l, f => if x.1 + x.2.1 ≤ f then kS l f + 1 else 0
def oe (rs : List Rn) (f n : Int) : Bool := match rs[kS rs f]? with
 | some x => decide (x.1 < f + n)
 | none => false
theorem En : ∀ (a : List Rn) (f : Int) (i : Nat), i ≤ a.length → (∀ j (d : j < a.length), j < i → a[j].1 + a[j].2.1 ≤ f) → (∀ h : i < a.length, ¬ a[i].1 + a[i].2.1 ≤ f) → kS a f = i
 | [], f, i, h, _, _ => by simp at h; rw [kS, h]
 | x :: l, f, 0, _, _, b => by
  have := b (by simp)
  rw [kS, Qaa (by grind)]
 | x :: l, f, i + 1, h, c, b => by
  have g := c 0 (by simp) (by omega)
  rw [kS, Qad (by grind), En l f i (by simpa using h) (fun j d e => by
   have := c (j + 1) (by omega) (by omega)
   simpa using this) (fun k => by
   have := b (by grind)
   simpa using this)]
theorem Eo : ∀ (a : List Rn) (f : Int), kS a f ≤ a.length
 | [], f => Qam _
 | x :: l, f => by
  have := Eo l f
  rw [kS]; split
  grind
  omega
def qG (rs : List Rn) : Prop := ∀ x ∈ rs, 0 ≤ x.1 ∧ 1 ≤ x.2.1 ∧ x.1 + x.2.1 ≤ 64 ∧ 0 ≤ x.2.2 ∧ x.2.2 < 64
theorem qG.get {rs} (h : qG rs) {i} (a : i < rs.length) : 0 ≤ (rs.getD i (0, 0, 0)).1 ∧ 1 ≤ (rs.getD i (0, 0, 0)).2.1 ∧ (rs.getD i (0, 0, 0)).1 + (rs.getD i (0, 0, 0)).2.1 ≤ 64 ∧ 0 ≤ (rs.getD i (0, 0, 0)).2.2 ∧ (rs.getD i (0, 0, 0)).2.2 < 64 := by
 rw [show rs.getD i (0, 0, 0) = rs[i] by simp [List.getD, a]]; exact h _ (QaG a)
theorem Z0 b k c a n : sQ W0 326 [pQ b] (pt b (mi a k c n) :: R) (.bool false) (pt b (mi a k c n) :: R) := by
 refine am func326 ntmps326 ?_
 refine cy rfl rfl rfl (fun d => ?_) fun d => ?_
 cases d
 refine aw ?_
 exact ac ao
theorem Z1 n (h : 0 ≤ n ∧ n ≤ 64) : sP W0 259 [iQ n] R (fun v B => ∃ b, v = .tuple #[pQ b, iQ 0] ∧ B = qF b ([], n) :: R) := by
 refine am func259 ntmps259 ?_
 refine cy rfl rfl rfl (fun a => ?_) fun a => ?_
 omega
 refine aw ?_
 refine aA rfl (fun c => ?_) fun c => ?_
 omega
 refine aw ?_
 refine bz fun d => ?_
 refine az ?_
 refine ⟨_, ⟨d, rfl, rfl⟩, ?_⟩
 exact (Ent.cons (eX (E := 445) (sz := 3) (B := R))).trans (rN (rs := []) rfl rfl)
theorem Z2 bt c rs n a (t : qG rs) (J : rs.length ≤ 1000) f k (P : 0 ≤ f ∧ f ≤ 64 ∧ 1 ≤ k ∧ k ≤ 64) : sQ W0 327 [pQ bt, iQ f, iQ k] (pt bt (mi a rs.length c n) :: osl 445 3 (.slice a rs.length c) (rs.flatMap cC) :: R) (.tuple #[iQ (kS rs f), .bool (oe rs f k)]) (pt bt (mi a rs.length c n) :: osl 445 3 (.slice a rs.length c) (rs.flatMap cC) :: R) := by
 refine am func327 ntmps327 ?_
 refine dt (jL rfl rfl) fun m => ?_
 refine ez (jL rfl rfl) fun r => ?_
 refine au 4 ?_
 refine DO (aw ?_)
 refine dt (rp m4 rfl) fun g => ?_
 refine dt (rp O7 rfl) fun l => ?_
 refine ar dX ?_
 refine fh (m6 iT rfl rfl rfl (Qab rfl) SetL.eq) ?_
 rintro _ _ rfl
 refine aL (aH (aO (CR (aH (aO (aO (aX (ae rfl (aM rfl) (aD rfl (aC call371 (YX bt)) ?_)))))))))
 rintro _ Q ⟨K, rfl, u⟩
 obtain rfl := u.symm
 refine aL (aH (mz ?_))
 refine XI 0 (fun C => (∀ j, j < rs.length → (rs.getD j (0, 0, 0)).1 + (rs.getD j (0, 0, 0)).2.1 ≤ f) ∧ C = pt bt (mi a rs.length c n) :: osl 445 3 (.slice a rs.length c) (rs.flatMap cC) :: pt l (ag [.bool false] 4) :: pt g (ag [iQ (rs.length : Nat)] 3) :: pt r (ag [iQ k] 3) :: pt m (ag [iQ f] 3) :: R) (fun C => ∃ i, i < rs.length ∧ (∀ j, j < i → (rs.getD j (0, 0, 0)).1 + (rs.getD j (0, 0, 0)).2.1 ≤ f) ∧ (¬ (rs.getD i (0, 0, 0)).1 + (rs.getD i (0, 0, 0)).2.1 ≤ f) ∧ C = pt bt (mi a rs.length c n) :: osl 445 3 (.slice a rs.length c) (rs.flatMap cC) :: pt l (ag [.bool (decide ((rs.getD i (0, 0, 0)).1 < f + k))] 4) :: pt g (ag [iQ (i : Nat)] 3) :: pt r (ag [iQ k] 3) :: pt m (ag [iQ f] 3) :: R) rfl call409 ?_ ?_ ?_
 intro L D
 refine YY (.exit 0) rs J (fun _ => pt l (ag [.bool false] 4) :: pt g (ag [iQ (rs.length : Nat)] 3) :: pt r (ag [iQ k] 3) :: pt m (ag [iQ f] 3) :: R) (fun i => ∀ j, j < i → (rs.getD j (0, 0, 0)).1 + (rs.getD j (0, 0, 0)).2.1 ≤ f) (fun B => ∃ i, i < rs.length ∧ (∀ j, j < i → (rs.getD j (0, 0, 0)).1 + (rs.getD j (0, 0, 0)).2.1 ≤ f) ∧ (¬ (rs.getD i (0, 0, 0)).1 + (rs.getD i (0, 0, 0)).2.1 ≤ f) ∧ B = pt l (ag [.bool (decide ((rs.getD i (0, 0, 0)).1 < f + k))] 4) :: pt g (ag [iQ (i : Nat)] 3) :: pt r (ag [iQ k] 3) :: pt m (ag [iQ f] 3) :: R) ((sG (r1 := pt) (b1 := K) (r2 := pt) (b2 := bt) (r3 := osl 445 3) (b3 := .slice a rs.length c)).trans (QaN _)) (fun j e => absurd e (QbF j)) (fun h => ⟨h, rfl⟩) (fun S h => by obtain ⟨i, v, w, M, rfl⟩ := h; exact ⟨i, v, w, M, rfl⟩) ?_
 intro i T s y
 have N := t.get s
 obtain ⟨x, d⟩ : ∃ x, rs.getD i (0, 0, 0) = x := ⟨_, rfl⟩
 rw [d] at N ⊢
 simp only [Qay, Qaw]
 refine zZ rfl rfl ?_
 refine aO (aX (ae rfl (bA rfl) (aL (aH (aX (aD rfl (dx NZ) ?_))))))
 rintro _ _ ⟨O, rfl, rfl⟩
 refine fh (fN ke rfl rfl rfl rfl rfl) ?_
 rintro _ _ rfl
 refine aL (zX rfl ?_)
 refine mz (aO (mz (aO ?_)))
 refine YU [(O, 0, _), (m, 0, _)] 5 mixed rfl (bQ (bQ bH)) (fun b => ?_)
 refine dp 0 rfl rfl rfl b (iD Ns ke rfl (by first | exact jN (k := 0) rfl | exact jN (k := 1) rfl) rfl) ?_
 refine dp 2 rfl rfl rfl b (cu di rfl (by first | exact dm (k := 0) rfl rfl | exact dm (k := 1) rfl rfl)) ?_
 refine cg 1 (aC call372 (YZ x (by omega))) fun b => ?_
 refine dp 3 rfl rfl rfl b (Hj rfl rfl) ?_
 refine dp 4 rfl rfl rfl b (bA rfl) ?_
 refine aJ ?_
 refine aA rfl (fun z => ?_) fun z => ?_
 refine au 4 ?_
 refine zY ?_
 have A : ∀ j, j < i + 1 → (rs.getD j (0, 0, 0)).1 + (rs.getD j (0, 0, 0)).2.1 ≤ f := fun j e => by
  rcases QaC j i with q | q
  exact y j q
  grind
 exact ⟨_, .inl ⟨rfl, A, rfl⟩, IO⟩
 refine aO (aX ?_)
 refine ae rfl (d5 rfl Gw rfl aR rfl (by first | exact Qac _ | rfl)) ?_
 refine ae rfl (cu di rfl (aI rfl)) ?_
 refine ae rfl (cu di rfl (aI rfl)) ?_
 refine ae rfl (cu di rfl (aI rfl)) ?_
 refine ae rfl (db rfl rfl (co (by omega))) ?_
 refine ae rfl (nu rfl rfl) (ae rfl (bA rfl) (aL (aH ?_)))
 refine aA rfl (fun o => ?_) fun o => ?_
 refine aX ?_
 refine fh (m6 iT rfl rfl rfl (Qab rfl) SetL.eq) ?_
 rintro _ _ rfl
 refine aL (oI (aH (aO (aX (ae rfl (aM rfl) (fh (m6 aR rfl rfl rfl (Qab rfl) SetL.eq) ?_))))))
 rintro _ _ rfl
 refine aL (aH (CQ (CS rfl (IP ?_))))
 refine ⟨_, .inr ⟨rfl, _, ⟨i, s, y, by rw [d]; exact z, rfl⟩, rfl⟩, ?_⟩
 simp only [Qay]
 rw [d]
 first
   | (rw [Qah o]; exact inferInstance)
   | (rw [Qal o]; exact inferInstance)
 refine jd (oI (aH (aO (aX (ae rfl (aM rfl) (fh (m6 aR rfl rfl rfl (Qab rfl) SetL.eq) ?_))))))
 rintro _ _ rfl
 refine aL (aH (CQ (CS rfl (IP ?_))))
 refine ⟨_, .inr ⟨rfl, _, ⟨i, s, y, by rw [d]; exact z, rfl⟩, rfl⟩, ?_⟩
 simp only [Qay]
 rw [d]
 first
   | (rw [Qah o]; exact inferInstance)
   | (rw [Qal o]; exact inferInstance)
 intro D C E
 obtain ⟨p, rfl⟩ := E
 have F : kS rs f = rs.length := En rs f rs.length (Qam _) (fun j e _ => by have := p j e; rwa [show rs.getD j (0, 0, 0) = rs[j] by simp [List.getD, e]] at this) (fun h => absurd h (Nat.lt_irrefl _))
 have G : oe rs f k = false := by grind [oe]
 refine oI (aH (aO ?_))
 refine bq [g, l] 4 fun b => ?_
 refine dp 0 rfl rfl rfl b (cu di rfl (by first | exact dm (k := 0) rfl rfl | exact dm (k := 1) rfl rfl)) ?_
 refine dp 1 rfl rfl rfl b (cu nk rfl (by first | exact dm (k := 0) rfl rfl | exact dm (k := 1) rfl rfl)) ?_
 refine dp 2 rfl rfl rfl b (bA rfl) ?_
 refine dp 3 rfl rfl rfl b (bA rfl) ?_
 refine i6 ?_
 refine aH (dE (rG (vo (.inl rfl) (.cons (aS rfl) (.cons (aS rfl) .nil)) ?_)))
 rw [F, G]
 exact ao
 intro D C E
 obtain ⟨i, s, v, w, rfl⟩ := E
 have H : rs.getD i (0, 0, 0) = rs[i] := by grind
 have F : kS rs f = i := En rs f i (by omega) (fun j e I => by have := v j I; rwa [show rs.getD j (0, 0, 0) = rs[j] by simp [List.getD, e]] at this) (fun h => by rw [← H]; exact w)
 have G : oe rs f k = decide ((rs.getD i (0, 0, 0)).1 < f + k) := by grind [oe]
 refine He (aH (aO ?_))
 refine bq [g, l] 4 fun b => ?_
 refine dp 0 rfl rfl rfl b (cu di rfl (by first | exact dm (k := 0) rfl rfl | exact dm (k := 1) rfl rfl)) ?_
 refine dp 1 rfl rfl rfl b (cu nk rfl (by first | exact dm (k := 0) rfl rfl | exact dm (k := 1) rfl rfl)) ?_
 refine dp 2 rfl rfl rfl b (bA rfl) ?_
 refine dp 3 rfl rfl rfl b (bA rfl) ?_
 refine i6 ?_
 refine au 2 ?_
 refine rG (vo (.inl rfl) (.cons (aS rfl) (.cons (aS rfl) .nil)) ?_)
 rw [F, G]
 exact ao
theorem Z3 l a n c (j : l.length = n) (t : n ≤ 1000) (f : cG (aQ W0 R) a 3 cC l) : sP W0 329 [.slice a n c] R (fun v B => ∃ g i, v = .slice g n i ∧ B = osl 445 3 (.slice g n i) (l.flatMap cC) :: R) := by
 subst j
 refine am func329 ntmps329 ?_
 refine aa (A0 jJ rfl rfl) ?_
 refine aA rfl (fun e => ?_) fun e => ?_
 refine au 7 ?_
 refine ac ?_
 have k : l = [] := by
  rcases l with _ | ⟨x, l⟩
  rfl
  obtain ⟨b, o, h, _⟩ := f 0 x rfl
  rw [e] at h; cases h
 subst k
 exact ⟨_, ⟨none, 0, rfl, rfl⟩, eX⟩
 have d := f.src (fun _ => rfl) (fun _ => trivial)
 refine jd (aH (aO (aX (aD rfl (vx jJ ke rfl) ?_))))
 rintro _ _ ⟨u, rfl, rfl⟩
 refine aw ?_
 refine aD rfl (Aw (sz := 3) (by_ := 24) (info := Tryz.t445) jJ (by kernel_rfl) rfl rfl rfl rfl (by decide) rfl rfl (news := l.flatMap cC) (by
 rcases d with h | ⟨m, p, q, r⟩
 grind
 right; exact ⟨m, p, q, r.weak⟩) (by rw [cJ qE]) (Em l) (by simp only [maxLen]; omega) (by omega)) ?_
 rintro _ _ ⟨s, e, rfl, rfl⟩
 refine aw ?_
 refine ac ?_
 rw [Qac, Qaw]
 exact ⟨_, ⟨s, e, rfl, rfl⟩, IO⟩
def lr (rs : List Rn) (i : Nat) (x : Rn) : List Rn := rs.take i ++ x :: rs.drop i
theorem Ep rs i x : (lr rs i x).flatMap cC = (rs.take i).flatMap cC ++ cC x ++ (rs.drop i).flatMap cC := by
 grind [lr]
theorem AJ {rs i} x (a : i ≤ rs.length) : (lr rs i x).length = rs.length + 1 := by
 grind [lr]
theorem AK (a : List Rn) i : a.flatMap cC = (a.take i).flatMap cC ++ (a.drop i).flatMap cC := by rw [← Qbt, QbT]
theorem Z4 rs a c bv x i (K : i ≤ rs.length) (hl : rs.length ≤ 1000) : sP W0 328 [.slice a rs.length c, iQ (i : Nat), .slice (some ⟨bv, 0, none⟩) 1 1] (osl 445 3 (.slice a rs.length c) (rs.flatMap cC) :: pt bv (ag (cC x) 445) :: R) (fun v B => ∃ U V, v = .slice U (rs.length + 1) V ∧ B = osl 445 3 (.slice U (rs.length + 1) V) ((lr rs i x).flatMap cC) :: R) := by
 have d : ((rs.take i).flatMap cC).length = i * 3 := by rw [cJ qE, QaR, Qbg K]
 have C : ((rs.drop i).flatMap cC).length = (rs.length - i) * 3 := by rw [cJ qE, QcW]
 have l : (rs.flatMap cC).length = rs.length * 3 := cJ qE rs
 refine am func328 ntmps328 ?_
 refine Ah (E := 445) (sz := 3) (a := a) (c := c) (n := rs.length) (fun W => ?_)
 refine aw ?_
 refine jP 16 (sR jJ ke rfl (i := i) rfl rfl K rfl) ?_
 refine jf ?_
 refine aA rfl (fun c6 => ?_) fun c6 => ?_
 refine aO ?_
 refine aX (ae rfl (aM rfl) (ae rfl (aM rfl) ?_))
 refine aD rfl (et (sz := 3) (by_ := 24) (info := Tryz.t445) jJ (by kernel_rfl) rfl rfl rfl rfl (by decide) rfl rfl ee rfl rfl (by simp only [maxLen]; omega) (by omega)) ?_
 rintro _ _ ⟨a1, c1, rfl, rfl⟩
 refine aw ?_
 refine ac ?_
 obtain rfl : i = rs.length := by omega
 refine ⟨_, ⟨a1, c1, rfl, rfl⟩, ?_⟩
 rw [Ep, QaU (Qam _), List.drop_length, List.flatMap_nil, Qav]
 exact IO
 have x0 : i < rs.length := by omega
 refine fT (r := osl 445 3) (b := .slice a rs.length c) (km (fun L X => by rw [X] at l; simp at l; omega) fun g n' x1 o L X h3 h4 N => ?_)
 cases L
 refine aw ?_
 refine aa (dU (rs.length + 1)) ?_
 refine aa (YR jJ rfl) ?_
 refine ai (fun c8 => ?_) fun c8 => ?_
 refine aa (oL jJ ke rfl rfl rfl (by omega)) ?_
 refine aa (dU (rs.length + 1)) ?_
 refine aa (nU (rs.length + 1 - i)) ?_
 refine aD rfl (YP (sz := 3) (by_ := 24) (info := Tryz.t445) (k := rs.length + 1 - i) (olds := (rs.take i).flatMap cC) jJ jI (by kernel_rfl) rfl rfl rfl rfl (by decide) rfl rfl rfl (.inr ⟨g, 0, rfl, Jj (l2 := (rs.drop i).flatMap cC ++ o) (by rw [← QaJ, ← AK]; exact ee (b := g))⟩) d (by omega) (by omega) (by simp only [maxLen]; omega) (by omega)) ?_
 rintro _ _ ⟨a9, Y, M, rfl, t, rfl⟩
 rw [show i + (rs.length + 1 - i) = rs.length + 1 by omega]
 refine fT (r := osl 445 3) (b := .slice a9 (rs.length + 1) Y) (km (fun j z => by
  have := Qai List.length z
  rw [Qaf, d, t] at this; simp at this; omega) fun O n9 Z u j z q3 q4 q5 => ?_)
 cases j
 refine aw ?_
 refine aa (sR jJ ke rfl (i := i) (a' := some ⟨O, i * 3, none⟩) rfl rfl (by omega) (by rw [mh, Qaa (by omega)]; simp [jr])) ?_
 refine ah (vz jJ ke rfl rfl (m := 1) (vs := cC x) (Qbg (by omega)) (ee (b := bv)) rfl (El x) (by rw [Qaf, Qaf, d, t]; omega) rfl) ?_
 refine bq [] 9 fun h => ?_
 refine aj 0 3 h ?_
 refine ax 3 h (dU (i + 1)) ?_
 refine ax 4 h (sR jJ ke rfl (i := i + 1) (a' := some ⟨O, (i + 1) * 3, none⟩) rfl rfl (by omega) (by rw [mh, Qaa (by omega)]; simp [jr])) ?_
 refine aj 5 2 h ?_
 refine ax 7 h (sR jJ ke rfl (i := i) (a' := some ⟨g, i * 3, none⟩) rfl rfl (by omega) (by rw [mh, Qaa (by omega)]; simp [jr])) ?_
 refine cg 8 (vz jJ ke rfl rfl (m := rs.length - i) (vs := (rs.drop i).flatMap cC) (Qbg (by omega)) (Jk (b := g) (l1 := (rs.take i).flatMap cC) (l3 := o) (by rw [← AK]) d) C (Em _) (by rw [wU, Qaf, Qaf, d, t]; omega) rfl) fun h => ?_
 refine aJ ?_
 refine ac ?_
 obtain ⟨F, G, rfl, H⟩ : ∃ F G, M = F ++ G ∧ F.length = 3 := ⟨M.take 3, M.drop 3, (QbT 3 M).symm, by rw [QaR]; omega⟩
 have I : G.length = (rs.length - i) * 3 := by rw [Qaf] at t; omega
 have Q : d7 (d7 ((rs.take i).flatMap cC ++ (F ++ G) ++ u) (i * 3) (cC x)) ((i + 1) * 3) ((rs.drop i).flatMap cC) = (lr rs i x).flatMap cC ++ u := by
  rw [Ep, ← d, show (rs.take i).flatMap cC ++ (F ++ G) ++ u = (rs.take i).flatMap cC ++ F ++ (G ++ u) by simp, AH (by rw [H]; rfl)]
  have e : (i + 1) * 3 = ((rs.take i).flatMap cC ++ cC x).length := by rw [Qaf, d, qE, Qcg]
  rw [e, ← QaJ, AH (by rw [I, C])]
 rw [Q]
 have f : ((lr rs i x).flatMap cC).length = (rs.length + 1) * 3 := by rw [cJ qE, AJ x K]
 refine ⟨_, ⟨some ⟨O, 0, none⟩, Y, rfl, rfl⟩, ?_⟩
 exact fk z q3 f (by rw [Qaf, f]; rw [Qaf, Qaf, d, Qaf, H, I] at q5; omega)
 refine aa (dU (rs.length + 1)) ?_
 refine aa (oL jJ ke rfl rfl rfl (by omega)) ?_
 refine aa (dU (i + 1)) ?_
 refine aa (sR jJ ke rfl (i := i + 1) (a' := some ⟨g, (i + 1) * 3, none⟩) rfl rfl (by omega) (by rw [mh, Qaa (by omega)]; simp [jr])) ?_
 refine aa (YQ (v := .bool false) rfl (fun w hO => by have L := YT (P := Tryz.prog) (tR := 4) (oa := 0) (na := 1) (ca := 1) (ob := (i + 1) * 3) (nb := rs.length + 1 - (i + 1)) (cb := c - (i + 1)) (ba := bv) (ga := g) (la := cC x) (lb := rs.flatMap cC ++ o) jJ ke (QaF _) (by rw [N]; omega) hO; rw [run_callFunc_extern func373 (by kernel_rfl) (by kernel_rfl) (by kernel_rfl) (e := Extern.SlicesOverlaps.overlaps #[439, 439] #[4]) (by kernel_rfl), L]; rfl)) ?_
 refine aA rfl (fun D => ?_) fun D => ?_
 refine au 1 ?_
 refine bq [] 9 fun h => ?_
 refine aj 0 3 h ?_
 refine ax 3 h (dU (i + 1)) ?_
 refine ax 4 h (sR jJ ke rfl (i := i + 1) (a' := some ⟨g, (i + 1) * 3, none⟩) rfl rfl (by omega) (by rw [mh, Qaa (by omega)]; simp [jr])) ?_
 refine aj 5 2 h ?_
 refine ax 7 h (sR jJ ke rfl (i := i) (a' := some ⟨g, i * 3, none⟩) rfl rfl (by omega) (by rw [mh, Qaa (by omega)]; simp [jr])) ?_
 refine cg 8 (vz jJ ke rfl rfl (m := rs.length - i) (vs := (rs.drop i).flatMap cC) ((Nat.min_eq_right (by omega)).trans (by omega)) (Jk (b := g) (l1 := (rs.take i).flatMap cC) (l3 := o) (by rw [← AK]) d) C (Em _) (by omega) rfl) fun h => ?_
 refine aJ ?_
 refine aa (sR jJ ke rfl (i := i) (a' := some ⟨g, i * 3, none⟩) rfl rfl (by omega) (by rw [mh, Qaa (by omega)]; simp [jr])) ?_
 refine ah (vz jJ ke rfl rfl (m := 1) (vs := cC x) (Qbg (by omega)) (ee (b := bv)) rfl (El x) (by rw [wU]; omega) rfl) ?_
 refine ac ?_
 have x2 : 3 ≤ o.length := by rw [Qaf, l] at N; omega
 obtain ⟨A, y, rfl, S⟩ : ∃ A y, o = A ++ y ∧ A.length = 3 := ⟨o.take 3, o.drop 3, (QbT 3 o).symm, by rw [QaR]; omega⟩
 obtain ⟨j, z, hq, J⟩ : ∃ j z, (rs.drop i).flatMap cC ++ A = j ++ z ∧ j.length = 3 := ⟨((rs.drop i).flatMap cC ++ A).take 3, ((rs.drop i).flatMap cC ++ A).drop 3, (QbT 3 _).symm, by rw [QaR, Qaf]; omega⟩
 have T : z.length = ((rs.drop i).flatMap cC).length := by
  have := Qai List.length hq
  rw [Qaf, Qaf] at this; omega
 have Q : d7 (d7 (rs.flatMap cC ++ (A ++ y)) ((i + 1) * 3) ((rs.drop i).flatMap cC)) (i * 3) (cC x) = (lr rs i x).flatMap cC ++ y := by
  have h0 : rs.flatMap cC ++ (A ++ y) = (rs.take i).flatMap cC ++ j ++ z ++ y := by
   conv => lhs; rw [AK rs i]
   rw [QaJ, ← QaJ ((rs.drop i).flatMap cC), hq]
   simp only [QaJ]
  have e : (i + 1) * 3 = ((rs.take i).flatMap cC ++ j).length := by rw [Qaf, d, J, Qcg]
  have h6 : (rs.take i).flatMap cC ++ j ++ (rs.drop i).flatMap cC ++ y = (rs.take i).flatMap cC ++ j ++ ((rs.drop i).flatMap cC ++ y) := by simp only [QaJ]
  have h7 := AH (p := (rs.take i).flatMap cC) (q := j) (s := (rs.drop i).flatMap cC ++ y) (r := cC x) (by rw [J]; rfl)
  rw [d] at h7
  rw [h0, e, AH T, h6, h7, Ep]
  simp only [QaJ]
 rw [Q]
 have f : ((lr rs i x).flatMap cC).length = (rs.length + 1) * 3 := by rw [cJ qE, AJ x K]
 refine ⟨_, ⟨some ⟨g, 0, none⟩, c, rfl, rfl⟩, ?_⟩
 exact fk (by omega) h3 f (by rw [Qaf, f]; rw [Qaf, Qaf, l, S] at N; omega)
 first | exact absurd rfl D | exact absurd (by decide) D
def iO (rs : List Rn) (n f k w : Int) : Int := if f < 0 ∨ k < 1 ∨ n < f ∨ n - f < k ∨ w < 0 ∨ 64 ≤ w then 1 else if oe rs f k then 5 else 0
def kE (rs : List Rn) (n f k w : Int) : List Rn := if iO rs n f k w = 0 then lr rs (kS rs f) (f, k, w) else rs
theorem Jm {rs n f k w} (h : qG rs) (c : n ≤ 64) : qG (kE rs n f k w) := by
 unfold kE; split
 rename_i a
 have d : ¬ (f < 0 ∨ k < 1 ∨ n < f ∨ n - f < k ∨ w < 0 ∨ 64 ≤ w) := fun q => by rw [iO, Qad q] at a; exact absurd a (by decide)
 intro x b
 rw [lr] at b
 rcases QaY.1 b with q | q
 exact h x (QbK q)
 rcases QaO.1 q with rfl | q
 grind
 exact h x (List.mem_of_mem_drop q)
 exact h
theorem Z5 {rs n f k w} : (kE rs n f k w).length ≤ rs.length + 1 := by
 grind [kE, AJ, Eo]
theorem Z6 b rs n (y : 0 ≤ n ∧ n ≤ 64) (h : qG rs) (z : rs.length ≤ 900) f k w : sQ W0 261 [pQ b, iQ f, iQ k, iQ w] (qF b (rs, n) :: R) (iQ (iO rs n f k w)) (qF b (kE rs n f k w, n) :: R) := by
 refine am func261 ntmps261 ?_
 refine YV (b := b) fun a c => ?_
 dsimp only
 refine aw ?_
 refine ah (ap call326 (Z0 b rs.length c a n)) ?_
 refine ai (fun j => ?_) fun j => ?_
 refine ac ?_
 have d : iO rs n f k w = 1 := by grind [iO]
 rw [kE, d, Qaa (by decide)]
 exact ⟨_, ⟨rfl, rfl⟩, rN rfl rfl⟩
 refine ai (fun l => ?_) fun l => ?_
 refine ac ?_
 have d : iO rs n f k w = 1 := by grind [iO]
 rw [kE, d, Qaa (by decide)]
 exact ⟨_, ⟨rfl, rfl⟩, rN rfl rfl⟩
 refine ai (fun m => ?_) fun m => ?_
 refine ac ?_
 have d : iO rs n f k w = 1 := by grind [iO]
 rw [kE, d, Qaa (by decide)]
 exact ⟨_, ⟨rfl, rfl⟩, rN rfl rfl⟩
 refine aa gF ?_
 refine ai (fun o => ?_) fun o => ?_
 refine ac ?_
 have d : iO rs n f k w = 1 := by grind [iO]
 rw [kE, d, Qaa (by decide)]
 exact ⟨_, ⟨rfl, rfl⟩, rN rfl rfl⟩
 refine ai (fun p => ?_) fun p => ?_
 refine ac ?_
 have d : iO rs n f k w = 1 := by grind [iO]
 rw [kE, d, Qaa (by decide)]
 exact ⟨_, ⟨rfl, rfl⟩, rN rfl rfl⟩
 refine ai (fun q => ?_) fun q => ?_
 refine ac ?_
 have d : iO rs n f k w = 1 := by grind [iO]
 rw [kE, d, Qaa (by decide)]
 exact ⟨_, ⟨rfl, rfl⟩, rN rfl rfl⟩
 refine ah (cq call327 (Z2 b c rs n a h (by omega) f k (by omega))) ?_
 refine ai (fun i => ?_) fun i => ?_
 refine ac ?_
 have d : iO rs n f k w = 5 := by grind [iO]
 rw [kE, d, Qaa (by decide)]
 exact ⟨_, ⟨rfl, rfl⟩, rN rfl rfl⟩
 have d : iO rs n f k w = 0 := by grind [iO]
 have g := Eo rs f
 refine m9 (E := 445) (sz := 3) (a := a) (n := rs.length) (c := c) cC rs qE (by decide) rfl (fun r => ?_)
 refine aw ?_
 refine aD rfl (aC call329 (Z3 rs a rs.length c rfl (by omega) r)) ?_
 rintro _ s ⟨t, u, rfl, e⟩
 obtain rfl := e.symm
 refine aw ?_
 refine dt (iG jJ ke NZ rfl (fm rfl rfl i5) rfl (by decide) (by decide) (by decide)) fun v => ?_
 refine aD rfl (cq call328 (Z4 rs t u v (f, k, w) (kS rs f) g (by omega))) ?_
 rintro _ s ⟨A, x, rfl, e⟩
 obtain rfl := e.symm
 refine aw ?_
 refine ar dX ?_
 refine ac ?_
 rw [kE, d, Qad rfl]
 exact ⟨_, ⟨rfl, rfl⟩, rN (AJ _ g).symm rfl⟩
def j7 : List Rn → Int → Option Int
 | [], _ => none
 | x :: l, i => if x.1 ≤ i ∧ i < x.1 + x.2.1 then some x.2.2 else j7 l i
theorem Z7 {rs} (h : qG rs) : ∀ {x w : Int}, j7 rs x = some w → 0 ≤ w ∧ w < 64 := by
 intro x w a
 induction rs with
 | nil => cases a
 | cons y l b =>
  rw [j7] at a
  split at a
  cases a
  have := h y (by simp)
  exact ⟨this.2.2.2.1, this.2.2.2.2⟩
  exact b (fun z c => h z (by simp [c])) a
def uw (rs : List Rn) : Prop := rs.Pairwise fun x y => x.1 + x.2.1 ≤ y.1
theorem Jn x l f k : oe (x :: l) f k = if x.1 + x.2.1 ≤ f then oe l f k else decide (x.1 < f + k) := by
 grind [oe, kS]
theorem Jo x y l f : lr (x :: l) (kS (x :: l) f) y = if x.1 + x.2.1 ≤ f then x :: lr l (kS l f) y else y :: x :: l := by
 grind [lr, kS]
theorem Z8 {l i} (h : j7 l i ≠ none) : ∃ y ∈ l, y.1 ≤ i ∧ i < y.1 + y.2.1 := by
 induction l with
 | nil => exact absurd rfl h
 | cons x l a =>
  rw [j7] at h
  by_cases q : x.1 ≤ i ∧ i < x.1 + x.2.1
  grind
  grind
theorem Jp : ∀ {d : List Rn} {f k : Int}, uw d → (∀ x ∈ d, 1 ≤ x.2.1) → 1 ≤ k → (oe d f k = true ↔ ∃ i, f ≤ i ∧ i < f + k ∧ j7 d i ≠ none)
 | [], f, k, _, _, _ => by
  constructor
  grind [oe]
  rintro ⟨i, _, _, h⟩; exact absurd rfl h
 | x :: l, f, k, g, e, j => by
  obtain ⟨p, m⟩ := Qbi.1 g
  have r := e x (by simp)
  rw [Jn]
  by_cases q : x.1 + x.2.1 ≤ f
  rw [Qad q, Jp m (fun y n => e y (by simp [n])) j]
  constructor
  rintro ⟨i, a, b, c⟩; exact ⟨i, a, b, by rw [j7, Qaa (by omega)]; exact c⟩
  grind [j7]
  rw [Qaa q, Qak]
  constructor
  intro h
  by_cases o : f ≤ x.1
  exact ⟨x.1, o, h, by rw [j7, Qad (by omega)]; simp⟩
  exact ⟨f, Qcb _, by omega, by rw [j7, Qad (by omega)]; simp⟩
  grind [j7, Z8]
theorem Jq : ∀ {a : List Rn} {f k w : Int} (i : Int), j7 (lr a (kS a f) (f, k, w)) i = if f ≤ i ∧ i < f + k then some w else j7 a i
 | [], f, k, w, i => by
  show j7 [(f, k, w)] i = _
  rw [j7, j7]; rfl
 | x :: l, f, k, w, i => by
  rw [Jo]
  by_cases q : x.1 + x.2.1 ≤ f
  rw [Qad q, j7, Jq i, j7]
  by_cases b : x.1 ≤ i ∧ i < x.1 + x.2.1
  grind
  grind
  grind [j7]
theorem Z9 {x y l i} (h : x ∈ lr l i y) : x = y ∨ x ∈ l := by
 grind [lr]
theorem Jr : ∀ {c : List Rn} {f k w : Int}, uw c → (∀ x ∈ c, 1 ≤ x.2.1) → oe c f k = false → uw (lr c (kS c f) (f, k, w))
 | [], f, k, w, _, _, _ => List.pairwise_singleton _ _
 | x :: l, f, k, w, d, e, b => by
  obtain ⟨g, h⟩ := Qbi.1 d
  have i := e x (by simp)
  rw [Jn] at b
  rw [Jo]
  by_cases q : x.1 + x.2.1 ≤ f
  rw [Qad q] at b ⊢
  refine Qbi.2 ⟨fun y a => ?_, Jr h (fun y a => e y (by simp [a])) b⟩
  rcases Z9 a with rfl | a
  exact q
  exact g y a
  rw [Qaa q] at b ⊢
  have b := of_decide_eq_false b
  refine Qbi.2 ⟨fun y a => ?_, d⟩
  rcases QaO.1 a with rfl | a
  grind
  grind
theorem Js {rs n f k w} (h : uw rs) (a : ∀ x ∈ rs, 1 ≤ x.2.1) : uw (kE rs n f k w) := by
 grind [kE, iO, Jr]
structure RT (rs : List Rn) (L : List Int) : Prop where
  at_ : ∀ i : Nat, i < L.length → L.getD i (-1) = (j7 rs i).getD (-1)
  s : uw rs
  ok : qG rs
def j8 (L : List Int) (f k w : Int) : Int := if f < 0 ∨ k < 1 ∨ (L.length : Int) < f ∨ L.length - f < k ∨ w < 0 ∨ 64 ≤ w then 1 else if (List.range k.toNat).any (fun i => decide (0 ≤ L.getD (f.toNat + i) (-1))) then 5 else 0
def mX (L : List Int) (f k w : Int) : List Int := if j8 L f k w = 0 then (List.range L.length).map fun (i : Nat) => if f ≤ i ∧ (i : Int) < f + k then w else L.getD i (-1) else L
theorem Jt {L f k w} : (mX L f k w).length = L.length := by unfold mX; split <;> simp
theorem Ju {rs} (h : qG rs) {i} : 0 ≤ (j7 rs i).getD (-1) ↔ j7 rs i ≠ none := by
 cases e : j7 rs i with
 | none => simp
 | some w => have := Z7 h e; simp; omega
theorem Za {rs L} (h : RT rs L) {f k : Int} (g : 0 ≤ f ∧ 1 ≤ k ∧ f + k ≤ L.length) : (List.range k.toNat).any (fun i => decide (0 ≤ L.getD (f.toNat + i) (-1))) = oe rs f k := by
 rw [Qag, Jp h.s (fun x j => (h.ok x j).2.1) g.2.1, Qbo]
 constructor
 rintro ⟨i, e, d⟩
 have e := QbE.1 e
 have d := Qar d
 rw [h.at_ _ (by omega)] at d
 exact ⟨((f.toNat + i : Nat) : Int), by omega, by omega, (Ju h.ok).1 d⟩
 rintro ⟨i, a, b, c⟩
 refine ⟨(i - f).toNat, QbE.2 (by omega), Qah ?_⟩
 rw [h.at_ _ (by omega), show ((f.toNat + (i - f).toNat : Nat) : Int) = i by omega]
 exact (Ju h.ok).2 c
theorem Jv {rs L} (h : RT rs L) {n : Int} (a : n = L.length) f k w : j8 L f k w = iO rs n f k w := by
 grind [j8, iO, Za]
theorem Zb {rs L} (h : RT rs L) {n : Int} (d : n = L.length) (b : n ≤ 64) f k w : RT (kE rs n f k w) (mX L f k w) := by
 refine ⟨fun i a => ?_, Js h.s (fun x e => (h.ok x e).2.1), Jm h.ok b⟩
 rw [Jt] at a
 unfold mX kE
 rw [Jv h d]
 by_cases q : iO rs n f k w = 0
 rw [Qad q, Qad q, Jq]
 simp only [List.getD, QcO, List.getElem?_range a, Option.map_some, Option.getD_some]
 by_cases c : f ≤ (i : Int) ∧ (i : Int) < f + k
 grind
 rw [Qaa c, Qaa c]; exact h.at_ i a
 rw [Qaa q, Qaa q]; exact h.at_ i a
theorem Zc n : RT [] (List.replicate n (-1)) := ⟨fun i a => by simp at a; simp [List.getD, a, j7], List.Pairwise.nil, fun x b => by simp at b⟩
section
variable {P : Program} {W0 : World} {N : FSz} {e : b0} {A R : List HP} {t : TypeId} {v : Value} {x y : Operand} {l' ys : List Value}
theorem Zd {E sz n c g j : Nat} [h : Tk (osl E sz) (.slice (some ⟨g, 0, none⟩) n c) A ys R] (p : ∀ w, (sizeOf t).run P w = .ok 1 w) (q : ev e x = some (.pointer (some ⟨g, j, none⟩))) (s : ev e y = some v)
    (u : v.oneCell' = true) (U : j < ys.length) (V : ys.set j v = l') : cZ P W0 N e A (.store t x y) (fun _ B => B = osl E sz (.slice (some ⟨g, 0, none⟩) n c) l' :: R) := by
 intro a w d z f C D K Q F G k
 rcases (G.tk (r := osl E sz) (b := .slice (some ⟨g, 0, none⟩) n c)).osl with ⟨i, _, _⟩ | ⟨W, X, H, m, i, I, J, Y, Z, L⟩
 cases i
 cases i
 refine m6 (b := g) (l := ys ++ m) p q s u (by grind) rfl a w d z f C D K Q F L fun M O B S o => ?_
 subst S
 refine k M O _ rfl (o.ent ?_)
 have T : (ys ++ m).set j v = l' ++ m := by grind
 rw [T]
 exact fk I J (by grind) (by grind)
theorem eB {S} {E n c j d f b a : Nat} {k i a'} (g : P.underlying t = some (.slice E)) (h : ∀ w, (sizeOf E).run P w = .ok d w) (l : ev e x = some (.slice a' n c)) (m : a' = some ⟨b, a, none⟩) (o : ev e y = some (.int k i))
    (p : i = j) (q : j < n) (r : a + j * d = f) : bP P S N e (.indexAddr t x y) (.pointer (some ⟨b, f, none⟩)) := by
 grind [jM]
instance (priority := high) ent_nil {A : List HP} : Ent A [] := ⟨fun l _ => ⟨[], l, rfl, QaN _⟩⟩
end
abbrev ik (c : Cfg) : Obj := ag (dC c) 30
def qH (c : Cfg) (i : Nat) : Rn := c.rl.getD i (0, 0, 0)
def jB (c : Cfg) : Nat → List Rn
 | 0 => []
 | i + 1 => if gL (qH c i).1 c.cats = true then kE (jB c i) 32 (qH c i).2.1 (qH c i).2.2 i else jB c i
theorem Jw c : ∀ i, qG (jB c i) ∧ (jB c i).length ≤ i ∧ uw (jB c i)
 | 0 => ⟨fun x a => by simp [jB] at a, Qam _, List.Pairwise.nil⟩
 | i + 1 => by
  obtain ⟨b, e, d⟩ := Jw c i
  rw [jB]; split
  exact ⟨Jm b (by decide), Qba Z5 (by omega), Js d fun x a => (b x a).2.1⟩
  grind
def rO (c : Cfg) (i : Nat) : Bool := !(gL (qH c i).1 c.cats && decide (iO (jB c i) 32 (qH c i).2.1 (qH c i).2.2 i = 0))
theorem Ze W0 b1 b4 bt c (hl : c.rl.length ≤ 8) (hs : ∀ A, cG (aQ W0 A) c.ra 3 ig c.rl) :
    WF W0 260 [pQ b1, pQ b4] c.rl.length (fun i => cv [pt b1 (ik c), pt b4 (ag [pQ bt] 385), qF bt (jB c i, 32)]) (rO c) := ⟨call260, fun i d R => by
 refine pD ?_
 simp only [Qay, Qaw]
 obtain ⟨g, o, hra, hc⟩ := (hs (pt b1 (ik c) :: R)).at_ d
 obtain ⟨x, hx⟩ : ∃ x, c.rl[i] = x := ⟨_, rfl⟩
 have e : qH c i = x := by grind [qH]
 rw [hx] at hc
 obtain ⟨h1, h2, h3⟩ := Jw c i
 have f : jB c (i + 1) = if gL x.1 c.cats = true then kE (jB c i) 32 x.2.1 x.2.2 i else jB c i := by rw [jB, e]
 have h : rO c i = !(gL x.1 c.cats && decide (iO (jB c i) 32 x.2.1 x.2.2 i = 0)) := by rw [rO, e]
 rw [f, h]
 generalize jB c i = T at h1 h2 h3 ⊢
 refine am func260 ntmps260 ?_
 refine aa (eB NN Ca rfl hra rfl rfl d (by first | exact Qac _ | rfl)) ?_
 refine aa (df hc.weak) ?_
 refine bj fun k => ?_
 refine fh (fN Ca rfl rfl rfl rfl rfl) ?_
 rintro _ _ rfl
 refine aL (aH (aO (aX ?_)))
 refine ae rfl (d5 rfl zv rfl aR rfl (by first | exact Qac _ | rfl)) ?_
 refine ae rfl (cu di rfl (aI rfl)) ?_
 refine ae rfl (d5 rfl Cc rfl aR rfl (by first | exact Qac _ | rfl)) ?_
 refine ae rfl (cu di rfl (aI rfl)) ?_
 refine aD rfl (iE Od rfl (Ej x.1 c.cats)) ?_
 rintro _ j ⟨rfl, hB_⟩
 obtain rfl := hB_.symm
 refine ae rfl (rn rfl) (ae rfl (aM rfl) ?_)
 refine cy rfl rfl rfl ?_ ?_
 intro a
 have b : gL x.1 c.cats = false := by grind
 rw [b]
 refine aw ?_
 refine ac ?_
 refine ⟨_, ⟨?_, rfl⟩, ?_⟩
 refine Qai Value.bool ?_
 first
   | rfl
   | (rw [Qbb, bne, Qag]; simp)
 first
   | (rw [Qad rfl]; exact inferInstance)
   | (rw [Qaa (by decide)]; exact inferInstance)
 intro a
 have b : gL x.1 c.cats = true := by grind
 rw [b]
 refine ae rfl (cu isAgg385 rfl (aI rfl)) ?_
 refine cI rfl rfl ?_
 refine ae rfl (d5 rfl zv rfl aR rfl (by first | exact Qac _ | rfl)) ?_
 refine cI rfl rfl (ae rfl (cu di rfl (aI rfl)) ?_)
 refine cI rfl rfl ?_
 refine ae rfl (d5 rfl zv rfl aR rfl (by first | exact Qac _ | rfl)) ?_
 refine cI rfl rfl (ae rfl (cu di rfl (aI rfl)) ?_)
 refine cI rfl rfl (ae rfl (aM rfl) (cI rfl rfl ?_))
 refine aD rfl (gU call261 rfl (Z6 bt T 32 (by decide) h1 (by omega) x.2.1 x.2.2 i)) ?_
 rintro _ j ⟨rfl, hB_⟩
 obtain rfl := hB_.symm
 refine cI rfl rfl (ae rfl (nt rfl rfl) (ae rfl (iu rfl rfl) (ae rfl (bA rfl) (aL (aH (dE (ac ?_)))))))
 refine ⟨_, ⟨?_, rfl⟩, ?_⟩
 refine Qai Value.bool ?_
 first
   | rfl
   | (rw [Qbb, bne, Qag]; simp)
 first
   | (rw [Qad rfl]; exact inferInstance)
   | (rw [Qaa (by decide)]; exact inferInstance)
 ⟩
def oZ (c : Cfg) : Bool := decide (8 < c.rl.length) || mV (rO c) c.rl.length
theorem Zf c (f : ∀ A, cG (aQ W0 A) c.ra 3 ig c.rl) : sP W0 180 [.agg (dC c).toArray] R (fun v B => ∃ r, v = .tuple #[iQ r, .bool (oZ c)] ∧ B = R) := by
 refine am func180 ntmps180 ?_
 refine bz fun d => ?_
 refine ai (fun g => ?_) fun g => ?_
 refine az ?_
 rw [oZ, Qah (by omega), Qbv]
 exact ⟨_, ⟨0, rfl, rfl⟩, IO⟩
 refine aD rfl (aC call259 (Z1 32 (by decide))) ?_
 rintro _ h ⟨a, rfl, b⟩
 obtain rfl := b.symm
 refine aw ?_
 refine dt (rp zeroValue385 rfl) fun e => ?_
 refine ar dX ?_
 refine eD (B := kH 0 (cv [pt d (ik c), pt e (ag [pQ a] 385), qF a ([], 32)]) :: R) inferInstance ?_
 refine A2 ?_
 simp only [Qay, Qaw]
 refine aw ?_
 refine aD rfl (rq (B := kH 0 (cv [pt d (ik c), pt e (ag [pQ a] 385), qF a ([], 32)]) :: R) inferInstance (aC Cs (Ji 260 [pQ d, pQ e] c.rl.length (fun i => cv [pt d (ik c), pt e (ag [pQ a] 385), qF a (jB c i, 32)]) (rO c) (Ze W0 d e a c (by omega) f) (by omega)))) ?_
 rintro _ h ⟨r, rfl, b⟩
 obtain rfl := b.symm
 refine aw ?_
 refine az ?_
 rw [oZ, Qal (by omega), Qbs]
 exact ⟨_, ⟨r, rfl, rfl⟩, IO⟩
def oi (c : Cfg) (g : Int) (k : Nat) : Bool := (c.pl.take k).any fun q => decide (q.2 = g)
theorem Zg c g (k : Nat) (s : k < c.pl.length) (t : c.pl.length ≤ 8) (f : c.pl.length ≤ c.pc) (m : ∀ A, cG (aQ W0 A) c.pa 2 jk c.pl) : sQ W0 264 [.agg (dC c).toArray, iQ g, iQ k] R (.bool (oi c g k)) R := by
 refine am func264 ntmps264 ?_
 refine bz fun u => ?_
 refine aa (oL zm zg rfl rfl (h := k) rfl (by omega)) ?_
 refine d4 (fun i : Nat => i ≤ k ∧ ∀ j, j < i → (c.pl.getD j (0, 0)).2 ≠ g) (fun i => [(1, iQ g), (12, .slice c.pa k c.pc), (13, iQ k), (14, iQ i)]) (fun _ => R) (fun i => k - i) 0 ?_ ?_
 grind
 intro i ⟨v, w⟩
 refine aw ?_
 refine ai (fun n => ?_) fun n => ?_
 have a : i < c.pl.length := by omega
 have b : i < k := by omega
 obtain ⟨y, o, d, l⟩ := (m R).at_ a
 obtain ⟨x, p⟩ : ∃ x, c.pl[i] = x := ⟨_, rfl⟩
 have q : c.pl.getD i (0, 0) = x := by grind
 rw [p] at l
 refine aa (eB zm zg rfl d rfl rfl b (by first | exact Qac _ | rfl)) ?_
 refine aa (df l.weak) ?_
 refine bj fun z => ?_
 refine ar aF ?_
 refine ai (fun r => ?_) fun r => ?_
 refine ac ?_
 have e : oi c g k = true := by
  grind [oi, Qbo, Qcp.2]
 rw [e]
 exact ao
 refine aa bY ?_
 refine bR (i + 1) ?_
 grind
 refine ac ?_
 have e : oi c g k = false := by
  grind [oi, Qcw, Qcp.1]
 rw [e]
 exact ao
def qI (c : Cfg) (i : Nat) : Bool := !gL (c.pl.getD i (0, 0)).1 c.cats || (decide ((c.pl.getD i (0, 0)).2 ≠ -1) && (!ii c (c.pl.getD i (0, 0)).2 || decide ((c.pl.getD i (0, 0)).1 ≠ kR c (c.pl.getD i (0, 0)).2) || oi c (c.pl.getD i (0, 0)).2 i))
theorem Zh W0 b1 c (D : c.pl.length ≤ 8) (f : c.pl.length ≤ c.pc) (C : ∀ A, cG (aQ W0 A) c.pa 2 jk c.pl) (l : ∀ A, cG (aQ W0 A) c.ga 3 ig c.gl) :
    WF W0 262 [pQ b1] c.pl.length (fun _ => cv [pt b1 (ik c)]) (qI c) := ⟨call262, fun i r R => by
 refine pD ?_
 simp only [Qay, Qaw]
 obtain ⟨g, o, hpa, hc⟩ := (C (pt b1 (ik c) :: R)).at_ r
 obtain ⟨⟨p, q⟩, hx⟩ : ∃ x, c.pl[i] = x := ⟨_, rfl⟩
 have s : c.pl.getD i (0, 0) = (p, q) := by grind
 have E : qI c i = (!gL p c.cats || (decide (q ≠ -1) && (!ii c q || decide (p ≠ kR c q) || oi c q i))) := by rw [qI, s]
 rw [hx] at hc
 rw [E]
 have m : ∃ (d e j : Nat) (y : List Value), (∀ A, bC (aQ W0 A) d (e + j * 3) y) ∧ (ii c q = true → c.ga = some ⟨d, e, none⟩ ∧ q = (j : Int) ∧ j < c.gl.length ∧ ∃ u : Int × Int × Int, y = ig u ∧ kR c q = u.1) := by
  cases F : ii c q with
  | false => exact ⟨0, 0, 0, [], fun A k v G => by simp at G, fun h => by cases h⟩
  | true =>
   have M : 0 ≤ q ∧ q < c.gl.length := Qar F
   obtain ⟨j, rfl⟩ : ∃ j : Nat, q = (j : Int) := ⟨q.toNat, by omega⟩
   have n : j < c.gl.length := by omega
   obtain ⟨d, e, hga, _⟩ := (l []).at_ n
   refine ⟨d, e, j, ig c.gl[j], fun A => ?_, fun _ => ⟨hga, rfl, n, c.gl[j], rfl, ?_⟩⟩
   obtain ⟨g2, o2, h2, hc2⟩ := (l A).at_ n
   rw [hga] at h2; cases h2; exact hc2
   grind [kR]
 obtain ⟨d, e, j, y, hcv, hrw⟩ := m
 obtain ⟨w, hw⟩ : ∃ w, ii c q = w := ⟨_, rfl⟩
 rw [hw] at hrw ⊢
 refine am func262 ntmps262 ?_
 refine aa (eB zm zg rfl hpa rfl rfl r (by first | exact Qac _ | rfl)) ?_
 refine aa (df hc.weak) ?_
 refine bj fun H => ?_
 refine ar aF ?_
 refine ah (aC Od (Ej p c.cats)) ?_
 refine aA rfl ?_ ?_
 intro I
 refine aw ?_
 refine ac ?_
 have z : gL p c.cats = false := by grind
 rw [z]
 exact ao
 intro I
 have z : gL p c.cats = true := by grind
 rw [z]
 refine aw ?_
 refine aA rfl ?_ ?_
 intro J
 refine aw ?_
 refine ac ?_
 rw [Qal (by omega)]
 exact ao
 intro J
 refine aw ?_
 refine ah (aC wO (uv c q)) ?_
 rw [hw]
 refine aA rfl ?_ ?_
 intro K
 refine aw ?_
 refine ac ?_
 have B : w = false := by grind
 rw [B, Qah (by omega)]
 exact ao
 intro K
 obtain rfl : w = true := by grind
 obtain ⟨hga, hqj, n, u, rfl, hlu⟩ := hrw rfl
 rw [hlu, Qah (by omega)]
 have L : ¬ q = -1 := by omega
 refine aw ?_
 refine fj [(b1, 0, dC c), (H, 0, jk (p, q)), (d, e + j * 3, ig u)] 18 mixed rfl (bQ (bQ (bU (hcv _) bH))) (fun a => ?_)
 refine aj 0 6 a ?_
 refine ax 6 a (eB np l9 rfl hga rfl hqj n (by first | exact Qac _ | rfl)) ?_
 refine aj 7 1 a ?_
 refine ax 8 a (aE (kJ (k := 2) (j := 0) rfl rfl)) ?_
 refine aj 9 2 a ?_
 refine mF (t := 37) rfl ?_ ?_
 intro b
 refine aj 11 7 a ?_
 refine aJ ?_
 refine ac ?_
 refine aG ?_
 refine Qai Value.bool ?_
 rw [Qag]
 simp_all
 intro b
 refine aj 11 4 a ?_
 refine gy 15 rfl rfl (aC call264 (Zg c q i r D f C)) (bQ (bQ (bU (hcv _) bH))) fun a => ?_
 refine aj 16 2 a ?_
 refine aJ ?_
 refine ac ?_
 refine aG ?_
 refine Qai Value.bool ?_
 rw [Qag]
 simp_all
 ⟩
def p7 (c : Cfg) : Bool := decide (8 < c.pl.length) || mV (qI c) c.pl.length
theorem Zi c (a : c.pl.length ≤ c.pc) (f : ∀ A, cG (aQ W0 A) c.pa 2 jk c.pl) (b : ∀ A, cG (aQ W0 A) c.ga 3 ig c.gl) : sP W0 181 [.agg (dC c).toArray] R (fun v B => ∃ r, v = .tuple #[iQ r, .bool (p7 c)] ∧ B = R) := by
 refine am func181 ntmps181 ?_
 refine bz fun d => ?_
 refine ai (fun g => ?_) fun g => ?_
 refine az ?_
 rw [p7, Qah (by omega), Qbv]
 exact ⟨_, ⟨0, rfl, rfl⟩, IO⟩
 refine aD rfl (ap Cs (AF 262 [pQ d] c.pl.length d _ (qI c) (Zh W0 d c (by omega) a f b) (by omega))) ?_
 rintro _ h ⟨r, rfl, e⟩
 obtain rfl := e.symm
 refine aw ?_
 refine az ?_
 rw [p7, Qal (by omega), Qbs]
 exact ⟨_, ⟨r, rfl, rfl⟩, IO⟩
structure CfOk (W0 : World) (c : Cfg) : Prop where
  g : ∀ A, cG (aQ W0 A) c.ga 3 ig c.gl
  r : ∀ A, cG (aQ W0 A) c.ra 3 ig c.rl
  p : ∀ A, cG (aQ W0 A) c.pa 2 jk c.pl
  n : ∀ A, cG (aQ W0 A) c.na 2 jk c.nl
  s : ∀ A, cG (aQ W0 A) c.sa 2 jk c.sl
  pc : c.pl.length ≤ c.pc
def Zj (W0 : World) (c : Cfg) (C : HP) (l : List (Value × Int × Bool)) : Prop := ∀ x ∈ l, ∃ fn cs, x.1 = .func (.func fn) #[] cs.toArray ∧ (∀ args w, (callFunc fn args).run Tryz.prog w = .ok (.enter fn args) w) ∧
  ∀ R, bE Tryz.prog W0 fn ([] ++ [.agg (dC c).toArray] ++ cs) (kH 0 C :: R) (fun v B => ∃ r, v = .tuple #[.int .i64 r, .bool x.2.2] ∧ B = kH 0 C :: R)
def oj : List (Value × Int × Bool) → Int
 | [] => 0
 | x :: t => if x.2.2 then x.2.1 else oj t
theorem Jx : ∀ (l : List (Value × Int × Bool)) (i : Nat) (b : i < l.length), (∀ j (c : j < l.length), j < i → l[j].2.2 = false) → l[i].2.2 = true → oj l = l[i].2.1
 | x :: t, 0, _, _, h => by rw [oj, Qad (by simpa using h)]; rfl
 | x :: t, i + 1, b, a, e => by
  have f := a 0 (by simp) (by omega)
  rw [oj, Qaa (by grind), Jx t i (by grind) (fun j c d => by
   have := a (j + 1) (by omega) (by omega)
   simpa using this) (by grind)]
  simp
theorem Jy : ∀ (l : List (Value × Int × Bool)), (∀ j (a : j < l.length), l[j].2.2 = false) → oj l = 0
 | [], _ => rfl
 | x :: t, h => by
  have b := h 0 (by simp)
  rw [oj, Qaa (by grind), Jy t (fun j a => by
   have := h (j + 1) (by grind)
   simpa using this)]
def vY (x : Value × Int × Bool) : List Value := [x.1, .int .i64 x.2.1]
def iy (c : Cfg) (bg : Nat) : List (Value × Int × Bool) := [(.func (.func 179) #[] #[], 13, kD c), (.func (.func 180) #[] #[], 14, oZ c), (.func (.func 181) #[] #[], 15, p7 c), (.func (.func 182) #[] #[], 16, jA c), (.func (.func 183) #[] #[], 17, od c), (.func (.func 178) #[] #[.pointer (some ⟨bg, 0, none⟩)], 18, mW c)]
theorem Zk W0 R bg x c : sQ W0 178 [.agg (dC c).toArray, pQ bg] (pt bg (ag [.bool x] 4) :: R) (.tuple #[iQ 0, .bool x]) (pt bg (ag [.bool x] 4) :: R) := by
 refine am func178 ntmps178 ?_
 refine bz fun b => ?_
 refine bq [bg] 3 fun a => ?_
 refine aj 0 3 a ?_
 refine aJ ?_
 exact az ao
theorem Zl x : sP W0 177 [.bool x] R (fun v B => ∃ a, v = .func (.func 178) #[] #[pQ a] ∧ B = pt a (ag [.bool x] 4) :: R) := by
 refine am func177 ntmps177 ?_
 refine dt (jL rfl rfl) fun a => ?_
 refine ac ?_
 exact ⟨_, ⟨a, rfl, rfl⟩, IO⟩
theorem Zm W0 c (h : CfOk W0 c) bg : Zj W0 c (cv [pt bg (ag [.bool (mW c)] 4)]) (iy c bg) := by
 intro x a
 simp only [iy, QaO, Qck, or_false] at a
 rcases a with rfl | rfl | rfl | rfl | rfl | rfl
 exact ⟨_, [], rfl, call179, fun R => YI c h.g⟩
 exact ⟨_, [], rfl, call180, fun R => Zf c h.r⟩
 exact ⟨_, [], rfl, call181, fun R => Zi c h.pc h.p h.g⟩
 exact ⟨_, [], rfl, call182, fun R => YN c h.n h.g⟩
 exact ⟨_, [], rfl, call183, fun R => YK c h.s⟩
 exact ⟨_, [pQ bg], rfl, call178, fun R => pD (ge (Zk W0 R bg (mW c) c) fun v B b => by
  obtain ⟨rfl, rfl⟩ := b
  exact ⟨_, ⟨0, rfl, rfl⟩, inferInstance⟩)⟩
def ol (c : Cfg) : Int := if c.cats < 0 ∨ 8 < c.cats then 12 else if kD c then 13 else if oZ c then 14 else if p7 c then 15 else if jA c then 16 else if od c then 17 else if mW c then 18 else if 32 < gn c c.gl.length then 19 else 0
theorem Zn c bg (h : ¬ (c.cats < 0 ∨ 8 < c.cats)) : ol c = if oj (iy c bg) = 0 ∧ 32 < gn c c.gl.length then 19 else oj (iy c bg) := by
 grind [ol, iy, oj]
theorem Jz {w n i} (h : mV w n = false) (a : i < n) : w i = false := by
 grind [vX]
theorem vZ {c} (h : kD c = false) : 1 ≤ c.gl.length ∧ c.gl.length ≤ 4 ∧ ∀ g ∈ c.gl, gL g.1 c.cats = true ∧ 1 ≤ g.2.1 ∧ g.2.1 ≤ 8 ∧ 0 ≤ g.2.2 ∧ g.2.2 ≤ 8 - g.2.1 := by
 simp only [kD, QcT, QcC] at h
 obtain ⟨e, b⟩ := h
 refine ⟨by omega, by omega, fun g d => ?_⟩
 obtain ⟨i, a, rfl⟩ := QbP d
 have := Jz b a
 rw [show c.gl.getD i (0, 0, 0) = c.gl[i] by simp [List.getD, a]] at this
 exact xU.1 this
theorem JA c (h : CfOk W0 c) : sP W0 102 [.agg (dC c).toArray] R (fun v B => ∃ x, v = .tuple #[iQ (ol c), iQ x] ∧ B = R) := by
 refine am func102 ntmps102 ?_
 refine ez (kg rfl) fun u => ?_
 refine au 4 ?_
 refine DO (aw ?_)
 refine cy rfl rfl rfl (fun z => ?_) fun z => ?_
 refine au 14 ?_
 refine rG (az ?_)
 have w : ol c = 12 := by grind [ol]
 rw [w]
 exact ⟨_, ⟨0, rfl, rfl⟩, IO⟩
 refine aw ?_
 refine aA rfl (fun O => ?_) fun O => ?_
 refine au 8 ?_
 refine rG (az ?_)
 have w : ol c = 12 := by grind [ol]
 rw [w]
 exact ⟨_, ⟨0, rfl, rfl⟩, IO⟩
 refine au 9 ?_
 refine CR (au 1 ?_)
 refine cF (fun e : Int × Int => e.1 = oj (iy c 0) ∧ ¬ (c.cats < 0 ∨ 8 < c.cats)) (fun e => [(1, pQ u), (5, iQ e.2), (6, iQ e.1)]) (fun _ => pt u (ik c) :: R) ?_ ?_
 refine au 9 ?_
 refine ah (aC call184 (YL c)) ?_
 refine aD rfl (je rfl call177 rfl (Zl (mW c))) ?_
 rintro _ P ⟨d, rfl, n⟩
 obtain rfl := n.symm
 refine aw ?_
 refine dt (iG a8o NB NY rfl (fm rfl rfl (fm rfl rfl (fm rfl rfl (fm rfl rfl (fm rfl rfl (fm rfl rfl i5)))))) rfl (by decide) (by decide) (by decide)) fun o => ?_
 refine gi (b := o) (o' := ag ((iy c d).flatMap vY) 321) rfl ?_
 refine aw ?_
 refine d4 (fun i : Nat => i ≤ 6 ∧ ∀ j (H : j < (iy c d).length), j < i → ((iy c d)[j]).2.2 = false) (fun i => [(1, pQ u), (5, iQ 0), (6, iQ 0), (29, .slice (some ⟨o, 0, none⟩) 6 6), (30, iQ 6), (31, iQ i)]) (fun _ => pt o (ag ((iy c d).flatMap vY) 321) :: pt u (ik c) :: kH 0 (cv [pt d (ag [.bool (mW c)] 4)]) :: R) (fun i => 6 - i) 0 ?_ ?_
 grind
 intro i ⟨hi, L⟩
 refine aw ?_
 refine aA rfl (fun Q => ?_) fun Q => ?_
 refine au 5 ?_
 have I : i < 6 := by omega
 have M : (iy c d).length = 6 := rfl
 have p : i < (iy c d).length := by omega
 have C := Zm W0 c h d (iy c d)[i] (QaG p)
 have r := Jx (iy c d) i p L
 have D : (iy c d)[i].2.2 = false → ∀ j (H : j < (iy c d).length), j < i + 1 → ((iy c d)[j]).2.2 = false := fun q j H S => by
  rcases QaC j i with T | T
  grind
  grind
 have l : bC (aQ W0 (pt o (ag ((iy c d).flatMap vY) 321) :: pt u (ik c) :: kH 0 (cv [pt d (ag [.bool (mW c)] 4)]) :: R)) o (i * 2) (vY (iy c d)[i]) := by
  obtain ⟨b, U, V, W⟩ := rB (W0 := W0) (A := pt o (ag ((iy c d).flatMap vY) 321) :: pt u (ik c) :: kH 0 (cv [pt d (ag [.bool (mW c)] 4)]) :: R) (f := vY) (sz := 2) (xs := iy c d) (b := o) (fun _ => rfl) rfl i (iy c d)[i] (by simp [p])
  cases V
  rwa [Qac] at W
 generalize hy : (iy c d)[i] = y at C r D l
 obtain ⟨yv, X, yb⟩ := y
 obtain ⟨fn, Y, rfl, s, E⟩ := C
 dsimp only at r D E
 refine aX (ae rfl (bJ I) ?_)
 refine ae rfl (df l) ?_
 refine ez (dx NY) fun Z => ?_
 refine fh (fN NB rfl rfl rfl rfl rfl) ?_
 rintro _ _ rfl
 refine aL (aH (aO (aX ?_)))
 refine ae rfl (d5 rfl NP rfl sizeOf318 rfl (by first | exact Qac _ | rfl)) ?_
 refine ae rfl (cu isAgg318 rfl (aI rfl)) ?_
 refine ae rfl (pB Gh v4 rfl rfl) ?_
 refine aD rfl (u6 (us := []) (cs := Y) rfl s rfl (E _)) ?_
 rintro _ P ⟨r_, rfl, n⟩
 obtain rfl := n.symm
 refine ae rfl (aM rfl) (ae rfl (lI rfl rfl) (ae rfl (lI rfl rfl) (ae rfl (bA rfl) (ae rfl (bA rfl) (aL (aH (aO (aX (ae rfl (aM rfl) (aL (aH ?_)))))))))))
 refine aA rfl (fun N => ?_) fun N => ?_
 refine aO ?_
 refine bq [Z] 5 fun F => ?_
 refine dp 0 rfl rfl rfl F (aM rfl) ?_
 refine dp 1 rfl rfl rfl F (d5 rfl NP rfl sizeOf34 rfl (by first | exact Qac _ | rfl)) ?_
 refine dp 2 rfl rfl rfl F (cu isAgg34 rfl (dm (k := 0) rfl rfl)) ?_
 refine dp 3 rfl rfl rfl F (bA rfl) ?_
 refine dp 4 rfl rfl rfl F (bA rfl) ?_
 refine aJ ?_
 exact bu (X, r_) (⟨(r N).symm, by omega⟩)
 refine aw ?_
 refine aa bY ?_
 refine bR (i + 1) ?_
 grind
 refine aw ?_
 refine bu ((0 : Int), (0 : Int)) ?_
 obtain rfl : i = 6 := by omega
 exact ⟨(Jy _ fun j H => L j H (by grind [iy])).symm, by omega⟩
 intro ⟨e, x⟩ ⟨w, G⟩
 dsimp only at w ⊢
 have m := Zn c 0 G
 rw [← w] at m
 refine aw ?_
 refine iF rfl rfl rfl (fun t => ?_) fun t => ?_
 have a : oj (iy c 0) = 0 := by omega
 have J : kD c = false := by
  rw [← Qau]; intro q; simp only [iy, oj, q, QbM] at a; exact absurd a (by decide)
 have x0 : jA c = false := by
  rw [← Qau]; intro q; simp only [iy, oj, q, QbM] at a; split at a <;> (try split at a) <;> (try split at a) <;> exact absurd a (by decide)
 obtain ⟨k1, k2, k3⟩ := vZ J
 have k4 : c.nl.length ≤ 4 := by
  grind [jA]
 refine aw ?_
 refine ah (aC call69 (YO c h.g (fun g hg => (k3 g hg).2) k4 k2)) ?_
 refine aA rfl (fun K => ?_) fun K => ?_
 refine au 8 ?_
 refine rG (az ?_)
 rw [m, Qad (by omega)]
 exact ⟨_, ⟨0, rfl, rfl⟩, IO⟩
 refine au 11 ?_
 refine rG (az ?_)
 rw [m, Qaa (by omega)]
 exact ⟨_, ⟨_, rfl, rfl⟩, IO⟩
 refine au 17 ?_
 refine rG (az ?_)
 rw [m, Qaa (by omega)]
 exact ⟨_, ⟨_, rfl, rfl⟩, IO⟩
def rt (c : Cfg) : Bool := decide (ol c = 0)
theorem Zo c (h : CfOk W0 c) : sQ W0 68 [.agg (dC c).toArray] R (.bool (rt c)) R := by
 refine am func68 ntmps68 ?_
 refine bz fun d => ?_
 refine aD rfl (aC call102 (JA c h)) ?_
 rintro _ e ⟨b, rfl, a⟩
 obtain rfl := a.symm
 refine aw ?_
 refine ac ?_
 refine aG ?_
 refine Qai Value.bool ?_
 rw [Qag, rt]; simp
theorem JB {c} (h : rt c = true) : 0 ≤ c.cats ∧ c.cats ≤ 8 ∧ kD c = false ∧ oZ c = false ∧ p7 c = false ∧ jA c = false ∧ od c = false ∧ mW c = false ∧ gn c c.gl.length ≤ 32 := by
 have h := Qar h
 unfold ol at h
 split at h
 omega
 rename_i i
 repeat' split at h
 all_goals first | exact absurd h (by decide) | skip
 rename_i a b d e f g j
 exact ⟨by omega, by omega, by simpa using a, by simpa using b, by simpa using d, by simpa using e, by simpa using f, by simpa using g, by omega⟩
theorem JC : ∀ a, a.flatMap (fun x => [bV x]) = bS a
 | [] => rfl
 | b :: l => by rw [QaQ, JC l]; rfl
theorem JD : ∀ a, (a.map fun b : Nat => (b : Int)).map (Value.int .u8) = bS a
 | [] => rfl
 | b :: l => by rw [QaL, QaL, JD l]; rfl
def AL (l : List Nat) : ByteArray := (l.map fun b : Nat => (b : Int)).foldl (fun r n => r.push (UInt8.ofNat n.toNat)) ByteArray.empty
section
variable {P : Program} {S : World → Prop} {W0 : World} {N : FSz} {e : b0} {A R : List HP} {t t' : TypeId} {x : Operand} {bs : List Nat} {a : Option Addr} {c n : Nat}
theorem Zp {E} (k : P.underlying t = some (.slice E)) (m : P.underlying E = some (.int .u8)) (n : P.underlying t' = some .string) (o : ev e x = some (.slice a bs.length c)) (h : cG S a 1 (fun x => [bV x]) bs) :
    bP P S N e (.convert t t' x) (.string (AL bs)) := fun p w _ _ _ _ _ q r => by
 have s : (Conv.bytesToString (.slice a bs.length c)).run P w = .ok (.string (AL bs)) w := by
  cases a with
  | none =>
   have : bs = [] := by
    cases bs with
    | nil => rfl
    | cons b l => obtain ⟨_, _, u, _⟩ := h 0 b rfl; cases u
   subst this
   simp [Conv.bytesToString, AL]
  | some f =>
   have y : (loadCells f bs.length).run P w = .ok ((bs.map fun b : Nat => (b : Int)).map (Value.int .u8)).toArray w := by
    by_cases g : bs = []
    subst g; simp [loadCells, loadCellsFrom]
    obtain ⟨b, z, d, j⟩ := h.all g (fun _ => rfl)
    cases d
    rw [JC] at j
    have := wX (P := P) (w := w) (vs := bS bs) (fun i v A => j i v A w r) bs.length 0 #[] (by simp [gz])
    simp only [loadCells, this, List.drop_zero, Array.empty_append, JD]
   exact run_bytesToString w f bs.length c _ y
 simp only [execOp, q.eval o, Sem.run_bind, run_convert_bytes_string w t t' E a bs.length c k m n, s, Result.andThen_ok, Sem.run_pure]
theorem JE {E} (b : P.underlying t = some (.slice E)) (d : P.underlying E = some (.int .u8)) (f : P.underlying t' = some .string) (g : ev e x = some (.slice a n c)) (i : bs.length = n) (h : cG S a 1 (fun x => [bV x]) bs) :
    bP P S N e (.convert t t' x) (.string (AL bs)) := by grind [Zp]
end
structure Sec where
  at_ : Int
  d : ByteArray
instance : Inhabited Sec := ⟨⟨0, ByteArray.empty⟩⟩
structure Inp where
  at_ : Int
  g : Int
  k : Int
  code : Int
  d : ByteArray
instance : Inhabited Inp := ⟨⟨0, 0, 0, 0, ByteArray.empty⟩⟩
theorem Own.step {W0 w w' A C} (h : Own W0 w A) (k : Own w w' C) : Own W0 w' (C ++ A) := by
 obtain ⟨a, j, m, c⟩ := h.owns
 obtain ⟨f, l, n, g⟩ := k.owns
 have d : ∀ p ∈ a, p.1 < w.heap.size := fun p e => by
  have := (c p e).2
  rcases QaC p.1 w.heap.size with q | q
  exact q
  grind
 refine ⟨k.os.trans h.os, k.tape.trans h.tape, k.output.trans h.output, Qba h.size k.size, fun b i => (k.base b (QcE i h.size)).trans (h.base b i), f ++ a, jq.append.2 ⟨f, a, rfl, l, j⟩, ?_, fun p e => ?_⟩
 grind
 rcases QaY.1 e with q | q
 exact ⟨Qba h.size (g p q).1, (g p q).2⟩
 exact ⟨(c p q).1, (k.base p.1 (d p q)).trans (c p q).2⟩
theorem Zq {P W0 f args A Post} (h : ∀ W, Own W0 W A → bE P W f args [] Post) : bE P W0 f args A (fun v B => ∃ C, Post v C ∧ B = C ++ A) := by
 intro w b
 refine (h w b w (Own.refl w)).mono ?_
 rintro e d ⟨v, C, rfl, c, a⟩
 exact ⟨v, C ++ A, rfl, ⟨C, c, rfl⟩, b.step a⟩
theorem xV {W0 W A b off vs} (a : Own W0 W A) (h : bC (aQ W0 A) b off vs) : ∀ B, bC (aQ W B) b off vs := fun B i v c => wW (h i v c W a)
theorem ux {α W0 W A a sz f} {d : List α} (e : Own W0 W A) (h : cG (aQ W0 A) a sz f d) : ∀ B, cG (aQ W B) a sz f d := fun B i x g => by
 obtain ⟨b, c, rfl, j⟩ := h i x g
 exact ⟨b, c, rfl, xV e j B⟩
section
variable {rd : Option Nat} {P : Program} {S : World → Prop} {W0 : World} {N : FSz} {e : b0} {A B R : List HP}
variable {op : Op} {ty t K E : TypeId} {v z : Value} {b : Nat} {x y u : Operand} {f : Int → Option Value} {k : Int}
end
section
variable {P : Program} {S : World → Prop} {W0 : World} {N : FSz} {e : b0} {A R : List HP} {t t' ty : TypeId} {b off : Nat} {x y : Operand} {l l' : List Value}
theorem JF {E k k'} (c : ∀ w, (isAgg E).run P w = .ok false w) (f : P.underlying E = some (.int k')) D w :
    ∀ (m s : Nat) (b a : List Int), b.length = s + m → a.length = s + m →
      (Op.eqItems (D + 1) E 1 (b.map (Value.int k)).toArray (a.map (Value.int k)).toArray (List.range' s m)).run P w = .ok (b.drop s == a.drop s) w
 | 0, s, b, a, g, i => by
  rw [show b.drop s = [] from List.drop_eq_nil_of_le (by omega), show a.drop s = [] from List.drop_eq_nil_of_le (by omega)]
  simp [Op.eqItems]
 | m + 1, s, b, a, g, i => by
  have j : (b.map (Value.int k))[s]? = some (.int k b[s]) := by grind
  have l : (a.map (Value.int k))[s]? = some (.int k a[s]) := by grind
  have n : b.drop s = b[s] :: b.drop (s + 1) := Qbf (by omega)
  have o : a.drop s = a[s] :: a.drop (s + 1) := Qbf (by omega)
  have p := JF (k := k) c f D w m (s + 1) b a (by omega) (by omega)
  rw [List.range'_succ, n, o]
  simp only [Op.eqItems, QaB, Sem.run_bind, vh c j w, vh c l w, Result.andThen_ok, run_equalIn_int w D E k k' _ _ f]
  by_cases h : b[s] = a[s]
  have d : ((a[s] :: b.drop (s + 1)) == (a[s] :: a.drop (s + 1))) = (b.drop (s + 1) == a.drop (s + 1)) := by
   rw [Qag, QaZ, QaZ]
   exact ⟨fun q => (List.cons.inj q).2, fun q => by rw [q]⟩
  rw [h, d]
  simp only [Qbz, Bool.not_true, Qaq, QcP]
  exact p
  have r : (b[s] == a[s]) = false := by simpa using h
  rw [r]
  have e : ((b[s] :: b.drop (s + 1)) == (a[s] :: a.drop (s + 1))) = false := by
   grind
  rw [e]
  simp
theorem AM {E n z : Nat} {k k' i} {ms ns : List Int} {us vs} (a : P.underlying t = some (.array n E)) (b : P.info? E = some i) (c : P.cellsOf E = 1) (e : P.underlying E = some (.int k')) (f : ∀ w, (isAgg E).run P w = .ok false w)
    (g : us = ms.map (Value.int k)) (h : vs = ns.map (Value.int k)) (j : ms.length = n) (l : ns.length = n) : oJ P (z + 2) t (.agg us.toArray) (.agg vs.toArray) (ms == ns) := fun d w => by
 subst g; subst h
 rw [show d + (z + 2) = (d + z + 1) + 1 by omega, run_equalIn_array w (d + z + 1) _ _ a b, c, List.range_eq_range', JF f e (d + z) w n 0 ms ns (by omega) (by omega)]
 simp
theorem Zr {E n j i h o' : Nat} {k k' j1 j2} (l : P.underlying t = some (.array n E)) (m : ∀ w, (sizeOf E).run P w = .ok j w) (o : ev e x = some (.pointer (some ⟨b, off, none⟩))) {lo hi} (p : ev e lo = some (.int k j1)) (q : ev e hi = some (.int k' j2)) (r : j1 = i) (s : j2 = h) (c : i ≤ h) (d : h ≤ n) (u : i < n) (v : off + i * j = o') :
    bP P S N e (.slice t x (some lo) (some hi) none) (.slice (some ⟨b, o', none⟩) (h - i) (n - i)) := fun a w _ _ _ _ _ f _ => by
 subst r; subst s; subst v
 have g : ¬ n = i := by omega
 simp [execOp, Instr.sliceAt, f.eval o, f.eval p, f.eval q, eV l, Instr.sureAddr, Instr.sliceBounds, rz d, rz c, m, g, jr]
theorem Zs {E n m c : Nat} {a} (b : P.underlying t = some (.array n E)) (d : ev e x = some (.slice a m c)) (f : ¬ m < n) : bP P S N e (.sliceToArrayPointer t x) (.pointer a) := fun g w _ _ _ _ _ h _ => by
 simp [execOp, h.eval d, Instr.arrayAt, eV b, f]
theorem Zt {S b off n j l vs} (h : bC S b off l) (c : (l.drop j).take n = vs) : bC S b (off + j) vs := fun i v a => by
 subst c
 rw [List.getElem?_take] at a
 split at a
 rw [Qcm] at a
 rw [QbY]
 exact h (j + i) v a
 cases a
end
section
variable {W0 : World} {N : FSz} {K : Act → World → Prop} {e : b0} {A R R1 R2 : List HP} {b n c : Nat} {l : List Dsc} {a : Option Addr} {ys : List Value}
end
structure QS where
  r : Rg3
  on : Bool
  br : Int
  last : Nat
  put : Nat
@[reducible] def bT : QS := ⟨⟨0, 0, 0, 0⟩, false, 0, 0, 0⟩
@[reducible] def JG (s : QS) : List Value := [.int .u32 s.r.desc, .int .u32 s.r.avail, .int .u32 s.r.used, .int .i64 s.r.n, .bool s.on, .int .i64 s.br, .int .i64 s.last, .int .i64 s.put]
abbrev qO (m : Bool) (s : QS) : Obj := ag [.int .u32 s.r.desc, .int .u32 s.r.avail, .int .u32 s.r.used, .int .i64 s.r.n, .bool s.on, .int .i64 s.br, .int .i64 s.last, .int .i64 s.put, .bool m] 190
theorem Zu b m s : sQ W0 92 [pQ b] (pt b (qO m s) :: R) (.bool (!m)) (pt b (qO m s) :: R) := by
 refine am func92 ntmps92 ?_
 refine cy rfl rfl rfl (fun a => ?_) fun a => ?_
 cases a
 refine aw ?_
 exact ac ao
theorem Zv : sP W0 166 [] R (fun v B => ∃ b, v = pQ b ∧ B = pt b (qO true bT) :: R) := by
 refine am func166 ntmps166 ?_
 refine bz fun a => ?_
 refine ac ?_
 exact ⟨_, ⟨_, rfl, rfl⟩, IO⟩
theorem Er b s : sQ W0 31 [pQ b] (pt b (qO true s) :: R) (.agg (JG s).toArray) (pt b (qO true s) :: R) := by
 refine am func31 ntmps31 ?_
 refine bj fun a => ?_
 refine dV 2 (ap call92 (Zu b true s)) ?_
 refine jf ?_
 refine ae rfl (pZ isAgg86 NG rfl TakeL.eq rfl) ?_
 refine ar aF ?_
 exact aV (.cons (bi isAgg86 NG rfl rfl) .nil) ao
section
variable {P : Program} {S : World → Prop} {W0 : World} {N : FSz} {e : b0} {A R : List HP} {t t' : TypeId} {x : Operand} {v : Value} {b : Nat} {vs : List Value}
end
structure Dk where
  rs : List Rn
  lb : List Int
  ss : List (List Nat)
section
variable {W0 : World} {N : FSz} {K : Act → World → Prop} {e : b0} {A B R R1 R2 R3 R4 : List HP} {d : Nat} {x : Dk}
end
section
variable {P : Program} {S : World → Prop} {W0 : World} {N : FSz} {e : b0} {A R : List HP} {ty t t' : TypeId} {x y : Operand} {b off : Nat} {l l' vs : List Value}
theorem Zw {E f z M C O m : Nat} {ay} (D : P.underlying t = some (.slice E)) (F : ∀ w, (sizeOf E).run P w = .ok f w) (G : ev e x = some (.slice (some ⟨b, off, none⟩) z M)) (H : ev e y = some (.slice ay C O))
    [h : Tk pt b A (ag l ty) R] (I : Nat.min C z = m) (d : m = 0 ∨ ∃ i j, ay = some ⟨i, j, none⟩ ∧ bC (aQ W0 A) i j vs) (S : vs.length = m * f) (T : fi vs = true) (U : off + m * f ≤ l.length) (J : d7 l off vs = l') :
    cZ P W0 N e A (.call { callee := .builtin .copy, args := #[x, y], argTypes := #[t, t'] }) (fun v B => v = iQ m ∧ B = pt b (ag l' ty) :: R) := by
 rcases d with rfl | ⟨i, j, rfl, V⟩
 have W : vs = [] := QaE (by omega)
 subst W
 have n : l = l' := J
 subst n
 intro a w o p q X g K Q L Y k
 have s := Y.tk (r := pt) (b := b)
 have c : (execOp a.eval { dst := o, op := .call { callee := .builtin .copy, args := #[x, y], argTypes := #[t, t'] }, type := p, pos := q, after := X, guard := g }).run P w = .ok (.value (iQ 0)) w := by
  have u : (sizeOf E).run P w = .ok f w := F w
  cases ay <;>
  simp only [execOp, resolve, invoke, builtin, Sem.run_bind, Sem.run_pure, Result.andThen_ok, QcA, QaL, Qch, L.eval G, L.eval H, Builtin.copy_, Builtin.lenOf, Builtin.firstCells, eV D, I, Qcn, QbU, QbI, List.getElem?_cons_succ, u, loadCells, loadCellsFrom, Nat.zero_mul, storeCells, goInt] <;> rfl
 unfold Oper.wp
 rw [c]
 exact k _ w _ ⟨rfl, rfl⟩ s
 exact vz D F G H I V S T U J
end
theorem JH (l : List Nat) : (l.flatMap fun x => [wV x]) = l.map wV := by
 induction l with
 | nil => rfl
 | cons x l a => rw [QaQ, a]; rfl
@[reducible] def iP (x : Nat) : List Value := [wV x]
theorem Es x : (iP x).length = 1 := rfl
theorem Et (l : List Nat) : l.flatMap iP = l.map wV := As wV l
def aZ (ws : List Nat) (p : Nat) : List Nat := ws.take (16 * p)
theorem w0 ws p : (aZ ws p).length = min (16 * p) ws.length := by rw [aZ, QaR]
theorem Eu (a b : Nat) : (if b < (a : Int) then (b : Int) else a) = (min a b : Nat) := by
 omega
theorem JI {p : Nat} (h : p ≤ 8) : (if 8 < (p : Int) then 8 else (p : Int)) = p := by rw [Qaa (by omega)]
theorem Zx (a : Nat) : (if a > (0 : Int) then (a : Int) else 0) = a := by
 omega
theorem JJ a (c p : Nat) ws (i : cG (aQ W0 R) a 1 iP ws) (j : p ≤ 8) (q : ws.length < 9223372036854775808) : sP W0 104 [.slice a ws.length c, iQ p] R (fun v B => ∃ g, v = .slice (some ⟨g, 0, none⟩) (aZ ws p).length (aZ ws p).length ∧ B = pt g (ag ((aZ ws p).map wV) 38) :: R) := by
 have r := w0 ws p
 have d := (i.take (16 * p)).src Es (fun _ => trivial)
 rw [Et] at d
 refine am func104 ntmps104 ?_
 refine aa (sF rfl rfl (JI j)) ?_
 refine aa (xQ rfl rfl (Zx p)) ?_
 refine jP 3 (ko (16 * p)) ?_
 refine cF (fun m : Nat => m = (aZ ws p).length) (fun m => [(0, .slice a ws.length c), (5, iQ m)]) (fun _ => R) ?_ ?_
 refine au 8 ?_
 refine ai (fun k => ?_) fun k => ?_
 exact bu ws.length (by omega)
 exact bu (16 * p) (by omega)
 intro m e
 refine aw ?_
 refine dt (vy (sz := 1) (by_ := 4) (info := Tryz.t38) tH (by kernel_rfl) rfl rfl rfl rfl (by decide) rfl rfl rfl rfl (by omega) (by decide)) fun g => ?_
 refine aD rfl (Zw tH aW rfl rfl (m := m) (vs := (aZ ws p).map wV) (Nat.min_eq_right (by omega)) (by
       rcases d with h | ⟨b, o, l, n⟩
       · left; rw [e, aZ, h]; rfl
       right; exact ⟨b, o, l, n.weak⟩) (by rw [Qax, e]; omega) (by simp [fi, wV, Value.oneCell']) (by rw [QbC]; omega) (by have := zM ((aZ ws p).map wV) (List.replicate (m * 1) (.int .u32 0)) [] (by rw [Qax, QbC, e]; omega); simpa using this)) ?_
 rintro _ s ⟨rfl, f⟩
 obtain rfl := f.symm
 refine aw ?_
 refine ac ?_
 subst e
 exact ⟨_, ⟨g, rfl, rfl⟩, IO⟩
def mj (n i : Nat) : Nat := min n (i * 16)
theorem JK ws i : (e7 ws i).length = min ws.length (mj ws.length i + 16) - mj ws.length i := by
 rw [e7, QaR, QcW, mj]; omega
theorem Zy a (c n i : Nat) ws (hn : ws.length = n) (hc : n ≤ c) (hi : i < 8) (h63 : n ≤ 1000) : sQ W0 160 [.slice a n c, iQ i] R (.slice (mh a c (mj n i) 1) (e7 ws i).length (c - mj n i)) R := by
 have b := JK ws i
 rw [hn] at b
 have d : mj n i = min n (i * 16) := rfl
 refine am func160 ntmps160 ?_
 refine aa (ko (i * 16)) ?_
 refine aa (sF rfl rfl (Eu n (i * 16))) ?_
 refine aa (dU (mj n i + 16)) ?_
 refine aa (sF rfl rfl (Eu n (mj n i + 16))) ?_
 refine aa (Ye tH aW rfl rfl rfl rfl rfl (by omega) (by omega)) ?_
 refine ac ?_
 rw [b]
 exact ao
theorem Zz {S a c i ws} (h : cG S a 1 iP ws) (b : ws.length ≤ c) : cG S (mh a c (mj ws.length i) 1) 1 iP (e7 ws i) := by
 have d : mj ws.length i + (e7 ws i).length ≤ ws.length := by
  grind [JK, mj]
 have := h.sub d b
 have e : (ws.drop (mj ws.length i)).take (e7 ws i).length = e7 ws i := by
  have f : mj ws.length i = min ws.length (i * 16) := rfl
  rcases QaC ws.length (i * 16) with q | q
  grind [e7, List.drop_of_length_le]
  grind [mj, e7]
 rwa [e] at this
theorem ZA pb ps po (b : 0 < po.length) : sQ W0 38 [pQ pb, iQ (-1), iQ 0] (cR pb (ps, po) :: R) (iQ 1) (cR pb (ps, po) :: R) := by
 have c : dN po.length (-1) = false := by simp [dN]
 refine am func38 ntmps38 ?_
 refine ah (ap zu (vW pb ps po b)) ?_
 refine ah (ap Oc (Eh pb ps po (-1))) ?_
 refine ai (fun a => ?_) fun a => ?_
 exact ac ao
 exact absurd (by simp [c]) a
theorem ZB b pg (h : Pgs pg) : sQ W0 122 [pQ b, iQ (-1)] (pt b (bB pg) :: R) (iQ 1) (pt b (bB pg) :: R) := by
 refine am O3 ntmps122 ?_
 refine ah (ap zq (vI b pg h)) ?_
 refine ah (aC Cn (xn (-1))) ?_
 refine ai (fun a => ?_) fun a => ?_
 exact ac ao
 exact absurd a (by decide)
theorem ZC pb ps pm x (h : ImOk x) (c : 0 < x.fr.length) : sQ W0 241 [pQ pb, pQ ps, pQ pm] (cR pb (ps, x.po) :: aY ps x.fr :: pt pm (bB x.pg) :: R) (.bool true) (cR pb (ps, x.po) :: aY ps x.fr :: pt pm (bB x.pg) :: R) := by
 have d := h.len
 refine am func241 ntmps241 ?_
 refine ah (ap call38 (ZA pb ps x.po (by omega))) ?_
 refine bO (fun a => ?_) fun a => ?_
 refine ah (ap wM (uf ps x.fr)) ?_
 refine iF rfl rfl rfl (fun b => ?_) fun b => ?_
 refine au 2 ?_
 refine ah (ap GF (ZB pm x.pg h.pg)) ?_
 exact ac ao
 omega
 exact absurd (by decide) a
theorem ZD pm pg (h : Pgs pg) n (d : n ≤ 8) (b : pK pg 0 n) : sQ W0 242 [pQ pm, iQ n] (pt pm (bB pg) :: R) (.bool true) (pt pm (bB pg) :: R) := by
 refine am func242 ntmps242 ?_
 refine d4 (fun i : Nat => i ≤ n) (fun i => [(0, pQ pm), (8, iQ n), (9, iQ i)]) (fun _ => pt pm (bB pg) :: R) (fun i => n - i) 0 ?_ ?_
 omega
 intro i e
 refine aw ?_
 refine ai (fun c => ?_) fun c => ?_
 refine ah (ap wL (uh pm pg h i)) ?_
 refine bj fun f => ?_
 refine ar aF ?_
 refine ai (fun a => ?_) fun a => ?_
 exact absurd a (by rw [b i (QaF _) (by omega)]; decide)
 refine aa bY ?_
 exact bR (i + 1) (by omega)
 exact ac ao
theorem ZE pb ps pm who n x (h : ImOk x) (b : 0 < x.fr.length) (c : who < 16) (l : 1 ≤ n) (d : n ≤ 8) (e : pK x.pg 0 n) (m : n ≤ (bN x.po who).length) : sQ W0 158 [pQ pb, pQ ps, pQ pm, iQ who, iQ n] (cR pb (ps, x.po) :: aY ps x.fr :: pt pm (bB x.pg) :: R) (iQ 0) (cR pb (ps, x.po) :: aY ps x.fr :: pt pm (bB x.pg) :: R) := by
 have f := h.len
 refine am func158 ntmps158 ?_
 refine dV 4 (cM call241 (ZC pb ps pm x h b)) ?_
 refine jf ?_
 refine aA rfl (fun g => ?_) fun g => ?_
 omega
 refine aw ?_
 refine aA rfl (fun i => ?_) fun i => ?_
 omega
 refine aw ?_
 refine aA rfl (fun j => ?_) fun j => ?_
 omega
 refine aw ?_
 refine aA rfl (fun k => ?_) fun k => ?_
 omega
 refine aw ?_
 refine dV 4 (ap call242 (ZD pm x.pg h.pg n d e)) ?_
 refine jf ?_
 refine dV 5 (ap call243 (YE pb ps x.po who (by omega) c)) ?_
 refine aA rfl (fun a => ?_) fun a => ?_
 omega
 refine aw ?_
 exact ac ao
theorem Ev {pg} {i f : Nat} (a : i < 8) (b : f < 32) (c : aK pg i = false) : fW pg i (f, 3) = 0 := by
 grind [fW, jg, lp]
theorem ZF b6 b9 b14 b7 b8 g pb ps pm a i f l x (h : ImOk x) ws (v : a < 16) (t : i < 8) (n : bN x.po a = f :: l) (w : aK x.pg (i : Nat) = false) (z : ∀ y ∈ ws, y < 4294967296) (E : ws.length ≤ 128) : sQ W0 159 ([] ++ [iQ i] ++ [pQ b6, pQ b9, pQ b14, pQ b7, pQ b8]) (pt b6 (ag [pQ pb] 104) :: pt b9 (ag [iQ a] 3) :: pt b14 (ag [.slice (some ⟨g, 0, none⟩) ws.length ws.length] 22) :: pt b7 (ag [pQ ps] 98) :: pt b8 (ag [pQ pm] 55) :: pt g (ag (ws.map wV) 38) :: cR pb (ps, x.po) :: aY ps x.fr :: pt pm (bB x.pg) :: R) (iQ 0) (pt b6 (ag [pQ pb] 104) :: pt b9 (ag [iQ a] 3) :: pt b14 (ag [.slice (some ⟨g, 0, none⟩) ws.length ws.length] 22) :: pt b7 (ag [pQ ps] 98) :: pt b8 (ag [pQ pm] 55) :: pt g (ag (ws.map wV) 38) :: cR pb (ps, (jz a ws x i).po) :: aY ps (jz a ws x i).fr :: pt pm (bB (jz a ws x i).pg) :: R) := by
 have F := kB.1 (show f ∈ bN x.po a by rw [n]; simp)
 have A := h.po.len
 have o : jz a ws x i = ⟨gK f (e7 ws i) 0 x.fr, x.po.set f ((a : Int), true), dO x.pg i ((f : Int), 3)⟩ := by rw [jz, n]
 rw [o]
 have d : ∀ y ∈ e7 ws i, y < 4294967296 := fun y m => z y (List.mem_of_mem_drop (QbK m))
 have p : (e7 ws i).length ≤ 16 := by grind [e7]
 simp only [Qaw, Qay]
 refine am func159 ntmps159 ?_
 refine dV 14 (ap call117 (Jf pb ps x.po a f l v h.po n)) ?_
 refine jf ?_
 refine dV 5 (aC call160 (Zy (some ⟨g, 0, none⟩) ws.length ws.length i ws rfl (Qam _) t (by omega))) ?_
 refine fM (fun k : Nat => k ≤ (e7 ws i).length) (fun k => [(0, iQ i), (4, pQ b7), (5, pQ b8), (8, iQ f), (23, .slice (mh (some ⟨g, 0, none⟩) ws.length (mj ws.length i) 1) (e7 ws i).length (ws.length - mj ws.length i)), (24, iQ (e7 ws i).length), (25, iQ k)]) (fun k => pt b6 (ag [pQ pb] 104) :: pt b9 (ag [iQ a] 3) :: pt b14 (ag [.slice (some ⟨g, 0, none⟩) ws.length ws.length] 22) :: pt b7 (ag [pQ ps] 98) :: pt b8 (ag [pQ pm] 55) :: pt g (ag (ws.map wV) 38) :: cR pb (ps, x.po.set f ((a : Int), true)) :: aY ps (gK f ((e7 ws i).take k) 0 x.fr) :: pt pm (bB x.pg) :: R) (fun k => (e7 ws i).length - k) 0 ?_ ?_ ?_ ?_
 omega
 · repeat (first | exact bK | refine bc rfl ?_)
 rw [show gK f ((e7 ws i).take 0) 0 x.fr = x.fr from rfl]
 exact IO
 intro k G
 refine aw ?_
 refine ai (fun B => ?_) fun B => ?_
 have c : k < (e7 ws i).length := by omega
 have q : cG (aQ W0 (pt b6 (ag [pQ pb] 104) :: pt b9 (ag [iQ a] 3) :: pt b14 (ag [.slice (some ⟨g, 0, none⟩) ws.length ws.length] 22) :: pt b7 (ag [pQ ps] 98) :: pt b8 (ag [pQ pm] 55) :: pt g (ag (ws.map wV) 38) :: cR pb (ps, x.po.set f ((a : Int), true)) :: aY ps (gK f ((e7 ws i).take k) 0 x.fr) :: pt pm (bB x.pg) :: R)) (some ⟨g, 0, none⟩) 1 iP ws := rB (b := g) Es (Et ws).symm
 obtain ⟨H, I, r, u⟩ := (Zz (i := i) q (Qam _)).at_ c
 obtain ⟨y, m⟩ : ∃ y, (e7 ws i)[k] = y := ⟨_, rfl⟩
 rw [m] at u
 have e := d _ (QaG c)
 rw [m] at e
 have s : (e7 ws i).take (k + 1) = (e7 ws i).take k ++ [y] := by grind [Qan]
 obtain ⟨C, D⟩ := uq (f := f) (l := (e7 ws i).take k) (k := 0) h.fr
 have j := Ea f y ((e7 ws i).take k) 0 x.fr
 rw [← s, QaR, Qbg (by omega), Qac] at j
 refine aa (eB tH aW rfl r rfl rfl c (by first | exact Qac _ | rfl)) ?_
 refine aa (aE (u 0 _ rfl)) ?_
 refine aa (ko (4 * k)) ?_
 refine ah (ap O4 (Dt ps (gK f ((e7 ws i).take k) 0 x.fr) f (4 * k : Nat) 4 y e C)) ?_
 refine aa bY ?_
 refine bR (k + 1) ?_ (he := ?_)
 omega
 rw [j]
 exact IO
 obtain rfl : k = (e7 ws i).length := by omega
 rw [QaU (Qam _)]
 refine ah (ap Oe (Dv pm x.pg h.pg i ((f : Int), 3))) ?_
 refine ac ?_
 rw [Ev t (by omega) w]
 exact ao
theorem JL pb ps pm who n x (h : ImOk x) (B : 0 < x.fr.length) a c ws (q : who < 16) (C : 1 ≤ n) (u : n ≤ 8) (v : pK x.pg 0 8) (D : n ≤ (bN x.po who).length) (E : ∀ A, Ent A R → cG (aQ W0 A) a 1 iP ws) (F : ∀ y ∈ ws, y < 4294967296) (G : ws.length < 9223372036854775808) : sQ W0 76 [pQ pb, pQ ps, pQ pm, iQ who, iQ n, .slice a ws.length c] (cR pb (ps, x.po) :: aY ps x.fr :: pt pm (bB x.pg) :: R) (iQ 0) (cR pb (ps, (ci who (aZ ws n) n x).po) :: aY ps (ci who (aZ ws n) n x).fr :: pt pm (bB (ci who (aZ ws n) n x).pg) :: R) := by
 have w := w0 ws n
 have r : ∀ y ∈ aZ ws n, y < 4294967296 := fun y H => F y (QbK H)
 have d : ∀ i, ImOk (ci who (aZ ws n) i x) := fun i => ut q h
 have I : ∀ i, (ci who (aZ ws n) i x).fr.length = x.fr.length := fun i => by
  induction i with
  | zero => rfl
  | succ i z =>
   rw [ci, jz]
   split
   rw [(uq (d i).fr).2]; exact z
   exact z
 refine am func76 ntmps76 ?_
 refine dt (jL rfl rfl) fun k => ?_
 refine dt (jL rfl rfl) fun m => ?_
 refine dt (jL rfl rfl) fun o => ?_
 refine dt (jL rfl rfl) fun p => ?_
 refine dV 9 (cM call158 (ZE pb ps pm who n x h B q C u (fun i J N => v i J (by omega)) D)) ?_
 refine jf ?_
 refine aD rfl (aC call104 (JJ a c n ws (E _ inferInstance) u G)) ?_
 rintro _ O ⟨g, rfl, s⟩
 obtain rfl := s.symm
 refine dt (rp zeroValue22 rfl) fun b => ?_
 refine ar dX ?_
 refine fM (fun i : Nat => i ≤ n) (fun i => [(15, .func (.func 159) #[] #[pQ k, pQ p, pQ b, pQ m, pQ o]), (31, iQ n), (32, iQ i)]) (fun i => pt k (ag [pQ pb] 104) :: pt p (ag [iQ who] 3) :: pt b (ag [.slice (some ⟨g, 0, none⟩) (aZ ws n).length (aZ ws n).length] 22) :: pt m (ag [pQ ps] 98) :: pt o (ag [pQ pm] 55) :: pt g (ag ((aZ ws n).map wV) 38) :: cR pb (ps, (ci who (aZ ws n) i x).po) :: aY ps (ci who (aZ ws n) i x).fr :: pt pm (bB (ci who (aZ ws n) i x).pg) :: R) (fun i => n - i) 0 ?_ ?_ ?_ ?_
 omega
 · repeat (first | exact bK | refine bc rfl ?_)
 rw [show ci who (aZ ws n) 0 x = x from rfl]
 exact IO
 intro i P
 refine aw ?_
 refine ai (fun K => ?_) fun K => ?_
 have L : i < n := by omega
 have j := xK (who := who) (words := aZ ws n) (x := x) i
 have t := (xL (who := who) (words := aZ ws n) v h.pg.len i (by omega)).1
 obtain ⟨f, l, M⟩ : ∃ f l, bN (ci who (aZ ws n) i x).po who = f :: l := by
  cases e : bN (ci who (aZ ws n) i x).po who with
  | nil => rw [e] at j; simp at j; omega
  | cons f l => exact ⟨f, l, rfl⟩
 refine dV 9 (je (us := []) (cs := [pQ k, pQ p, pQ b, pQ m, pQ o]) rfl call159 rfl (ZF k p b m o g pb ps pm who i f l (ci who (aZ ws n) i x) (d i) (aZ ws n) q (by omega) M (t i (Qam _) (by omega)) r (by omega))) ?_
 refine jf ?_
 refine jP 3 bY ?_
 exact bR (i + 1) (by omega)
 refine ac ?_
 obtain rfl : i = n := by omega
 exact ao
@[reducible] def jm (x : Int × Bool) : List Value := [.int .i64 x.1]
@[reducible] def jW (x : Int × Bool) : List Value := [.bool x.2]
def dA (pb : Nat) (x : Nat × Po) : HP := chk (fun C => ∃ a c a2 c2, C = [pt pb (ag [.pointer (some ⟨x.1, 0, none⟩), .slice a x.2.length c, .slice a2 x.2.length c2] 207), osl 3 1 (.slice a x.2.length c) (x.2.flatMap jm), osl 4 1 (.slice a2 x.2.length c2) (x.2.flatMap jW)])
section
variable {P : Program} {W0 : World} {N : FSz} {K : Act → World → Prop} {e : b0} {A B R R1 R2 R3 : List HP} {pb ps n : Nat} {po : Po} {f : FuncId} {args : List Value} {Post : Value → List HP → Prop}
theorem AN (a : Po) : (a.flatMap jm).length = a.length := by rw [cJ (k := 1) (fun _ => rfl)]; omega
theorem w3 (a : Po) : (a.flatMap jW).length = a.length := by rw [cJ (k := 1) (fun _ => rfl)]; omega
theorem JM [i : Tk dA pb A (ps, po) R] (h : ∀ a c d f, av W0 N K e (pt pb (ag [pQ ps, .slice a po.length c, .slice d po.length f] 207) :: osl 3 1 (.slice a po.length c) (po.flatMap jm) :: osl 4 1 (.slice d po.length f) (po.flatMap jW) :: R)) : av W0 N K e A :=
  fT (r := dA) (b := pb) (nv fun C g => by obtain ⟨a, c, d, f, rfl⟩ := g; exact h a c d f)
theorem JN {a a2 c c2 n2 xs ys} [d : Tk pt pb A (ag [pQ ps, .slice a n c, .slice a2 n2 c2] 207) R1] [e : Tk (osl 3 1) (.slice a n c) R1 xs R2] [f : Tk (osl 4 1) (.slice a2 n2 c2) R2 ys R3]
    (g : n = po.length) (b : n2 = po.length) (h : xs = po.flatMap jm) (i : ys = po.flatMap jW) [k : Ent R3 B] : Ent A (dA pb (ps, po) :: B) := by
 subst g; subst b; subst h; subst i
 exact (Ent.ofPerm (d.perm.trans ((e.perm.trans (f.perm.cons _)).cons _))).trans ((Ent.cons (Ent.cons (Ent.cons k))).trans (fH (R := B) (C := [_, _, _]) ⟨a, c, a2, c2, rfl⟩))
theorem xW [x : Tk dA pb A (ps, po) R] (y : 0 < po.length) (h : ∀ g c j f k d, po.length ≤ c → c ≤ maxLen → (po.flatMap jm ++ k).length = c * 1 → po.length ≤ f → f ≤ maxLen → (po.flatMap jW ++ d).length = f * 1 →
    av W0 N K e (pt pb (ag [pQ ps, .slice (some ⟨g, 0, none⟩) po.length c, .slice (some ⟨j, 0, none⟩) po.length f] 207) :: pt g (ag (po.flatMap jm ++ k) 3) :: pt j (ag (po.flatMap jW ++ d) 4) :: R)) : av W0 N K e A := by
 refine JM (pb := pb) fun a c o f => ?_
 refine fT (r := osl 3 1) (b := .slice a po.length c) ?_
 refine km (fun l i => by have := Qai List.length i; rw [AN, Qbr] at this; omega) fun g n p k l i q z s => ?_
 cases l
 refine fT (r := osl 4 1) (b := .slice o po.length f) ?_
 refine km (fun l i => by have := Qai List.length i; rw [w3, Qbr] at this; omega) fun j B m d t u v C w => ?_
 cases t
 exact eD inferInstance (h g c j f k d i q s u v w)
theorem mY {g g2 c c2 n2 xs ys sp sp2} [b : Tk pt pb A (ag [pQ ps, .slice (some ⟨g, 0, none⟩) n c, .slice (some ⟨g2, 0, none⟩) n2 c2] 207) R1] [r : Tk pt g R1 (ag (xs ++ sp) 3) R2] [s : Tk pt g2 R2 (ag (ys ++ sp2) 4) R3]
    (d : n = po.length) (a : n2 = po.length) (e : xs = po.flatMap jm) (f : ys = po.flatMap jW) (h : n ≤ c) (i : c ≤ maxLen) (j : (xs ++ sp).length = c * 1) (l : n2 ≤ c2) (m : c2 ≤ maxLen) (o : (ys ++ sp2).length = c2 * 1) [k : Ent R3 B] : Ent A (dA pb (ps, po) :: B) := by
 have p : Ent R2 (osl 4 1 (.slice (some ⟨g2, 0, none⟩) n2 c2) ys :: B) := fk l m (by grind [w3]) o
 have q : Ent R1 (osl 3 1 (.slice (some ⟨g, 0, none⟩) n c) xs :: osl 4 1 (.slice (some ⟨g2, 0, none⟩) n2 c2) ys :: B) := fk (k := p) h i (by grind [AN]) j
 refine (Ent.ofPerm b.perm).trans ((Ent.cons q).trans ?_)
 exact JN d a e f
end
theorem xX {po sp i} (a : i < po.length) : (po.flatMap jm ++ sp)[i * 1]? = some (iQ (d6 po i).1) := by
 have := mG (f := jm) (k := 1) (fun _ => rfl) po i 0 sp a (by decide)
 rw [QbN] at this
 rw [this]; simp [jm, d6, List.getD, a]
theorem xY {po} {sp : List Value} {i} (a : i < po.length) : (po.flatMap jW ++ sp)[i * 1]? = some (.bool (d6 po i).2) := by
 have := mG (f := jW) (k := 1) (fun _ => rfl) po i 0 sp a (by decide)
 rw [QbN] at this
 rw [this]; simp [jW, d6, List.getD, a]
theorem JO {po : Po} {sp i v t} (a : i < po.length) : (po.flatMap jm ++ sp).set (i * 1) (iQ v) = (po.set i (v, t)).flatMap jm ++ sp := by
 have := qd (f := jm) (k := 1) (fun _ => rfl) po i 0 (iQ v) (v, t) sp a (by decide) (by simp [jm])
 rwa [QbN] at this
theorem Ew {po : Po} {sp i v t} (a : i < po.length) : (po.flatMap jW ++ sp).set (i * 1) (.bool t) = (po.set i (v, t)).flatMap jW ++ sp := by
 have := qd (f := jW) (k := 1) (fun _ => rfl) po i 0 (.bool t) (v, t) sp a (by decide) (by simp [jW])
 rwa [QbN] at this
theorem JP {po : Po} {i t} (a : i < po.length) : (po.set i ((d6 po i).1, t)).flatMap jm = po.flatMap jm := by
 have h := JO (po := po) (sp := []) (i := i) (v := (d6 po i).1) (t := t) a
 rw [Qav, Qav, QaB] at h
 rw [← h]
 refine Ax ?_
 have := xX (po := po) (sp := []) a
 rwa [Qav, QaB] at this
theorem ZG {a : Po} {i v} (b : i < a.length) : (a.set i (v, (d6 a i).2)).flatMap jW = a.flatMap jW := by
 have h := Ew (po := a) (sp := []) (i := i) (v := v) (t := (d6 a i).2) b
 rw [Qav, Qav, QaB] at h
 rw [← h]
 refine Ax ?_
 have := xY (po := a) (sp := []) b
 rwa [Qav, QaB] at this
theorem JQ qs fr (f : Nat) (hf : f < fr.length) : sQ W0 101 [pQ qs, iQ f] (cN qs fr :: R) (iQ 0) (cN qs (fr.set f cm) :: R) := by
 have i : dN fr.length f = true := by grind [dN]
 refine am func101 ntmps101 ?_
 refine ah (ap sf (qu qs fr f)) ?_
 refine aA rfl (fun e => ?_) fun e => ?_
 exact absurd e (by simp [i])
 refine au 3 ?_
 refine Ac (qs := qs) hf fun a c j p k l => ?_
 refine sJ (E := 80) (sz := 1) (v := .slice a fr.length c) (fun d h => by have := (Value.slice.inj d).2.1; omega) fun g n q r d h m s t => ?_
 cases d
 refine bq [qs] 8 fun b => ?_
 refine aj 0 5 b ?_
 refine cj 5 (vy (sz := 1) (by_ := 1) (info := Tryz.t5) m0 (by kernel_rfl) rfl rfl rfl rfl (by decide) rfl rfl rfl rfl (by decide) (by decide)) ?_; clear b
 rintro _ _ ⟨o, rfl, rfl⟩
 refine ⟨aT, fun b => ?_⟩
 refine ax 6 b (bJ hf) ?_
 refine cp 7 (dq (by omega) (by rw [QaB, Qca _ _ (by omega)])) fun b => ?_
 refine aJ ?_
 refine ac ?_
 exact ⟨_, ⟨rfl, rfl⟩, Ad (vs := j) (vi := .slice (some ⟨o, 0, none⟩) 64 64) (y := cm) (sp2 := []) rfl rfl rfl k rfl hf h m (by grind) (by decide) (by decide) rfl rfl⟩
theorem ZH n : (List.replicate n ((-1), false)).flatMap jm ++ [[Value.int .i64 (-1)]].flatten = (List.replicate (n + 1) ((-1), false)).flatMap jm := by
 grind [QbL]
theorem ZI n : (List.replicate n ((-1), false)).flatMap jW ++ [[Value.bool false]].flatten = (List.replicate (n + 1) ((-1), false)).flatMap jW := by
 grind [QbL]
section
variable {A B R R2 : List HP} {qs n c : Nat} {a : Option Addr} {fr : List aB} {vs : List Value}
theorem JR {x} (b : vs.length = fr.length) : Ent (pt qs (ag [.slice a fr.length c] 196) :: osl 80 1 (.slice a fr.length c) vs :: ((vs.zip fr).map gG ++ (x :: R))) (cN qs fr :: x :: R) := ui (vs := vs) b rfl
theorem ZJ {x} (b : vs.length = fr.length) : Ent (pt qs (ag [.slice a fr.length c] 196) :: osl 80 1 (.slice a fr.length c) vs :: ((vs.zip fr).map gG ++ (x :: R))) (x :: cN qs fr :: R) := (JR b).trans (Ent.ofPerm (List.Perm.swap _ _ _))
end
theorem ZK {B pb ps} : Ent (pt pb (ag [pQ ps, eg, eg] 207) :: B) (dA pb (ps, []) :: B) :=
  (Ent.cons (eX (E := 3) (sz := 1) (k := eX (E := 4) (sz := 1) (A := B) (B := B)))).trans (fH (R := B) (C := [_, _, _]) ⟨none, 0, none, 0, rfl⟩)
theorem ZL qs fr (k : 0 < fr.length) (g : fr.length ≤ 32) : sP W0 36 [pQ qs] (cN qs fr :: R) (fun v B => ∃ b, v = .tuple #[pQ b, iQ 0] ∧ B = dA b (qs, List.replicate fr.length (-1, false)) :: cN qs fr :: R) := by
 refine am func36 ntmps36 ?_
 refine vK (qs := qs) fun a c f e => ?_
 refine aw ?_
 refine cy rfl rfl rfl (fun d => ?_) fun d => ?_
 cases d
 refine aw ?_
 refine aA rfl (fun h => ?_) fun h => ?_
 omega
 refine aw ?_
 refine bz fun b => ?_
 refine fM (fun X : Nat => X ≤ fr.length) (fun X => [(0, pQ qs), (4, pQ b), (5, iQ X)]) (fun X => dA b (qs, List.replicate X (-1, false)) :: cN qs fr :: R) (fun X => fr.length - X) 0 ?_ ?_ ?_ ?_
 omega
 · repeat (first | exact bK | refine bc rfl ?_)
 exact (Ent.cons (ui (vs := f) e rfl)).trans ZK
 intro i l
 refine aw ?_
 refine vK (qs := qs) fun a c f e => ?_
 refine aw ?_
 refine ai (fun j => ?_) fun j => ?_
 refine eD (B := cN qs fr :: dA b (qs, List.replicate i (-1, false)) :: R) (JR e) ?_
 refine JM (pb := b) fun a c m n => ?_
 refine aw ?_
 refine dt (js ek aR m4 rfl rfl rfl rfl rfl (by decide) (by decide)) fun o => ?_
 refine aD rfl (et (sz := 1) (by_ := 8) (info := Tryz.t3) ek (by kernel_rfl) rfl rfl rfl rfl (by decide) rfl rfl ee rfl rfl (by simp only [maxLen, QbC]; omega) (by grind)) ?_
 rintro _ _ ⟨p, q, rfl, rfl⟩
 refine aw ?_
 refine ar dX ?_
 refine dt (js NL iT O7 rfl rfl rfl rfl rfl (by decide) (by decide)) fun r => ?_
 refine aD rfl (et (sz := 1) (by_ := 1) (info := Tryz.t4) NL (by kernel_rfl) rfl rfl rfl rfl (by decide) rfl rfl ee rfl rfl (by simp only [maxLen, QbC]; omega) (by grind)) ?_
 rintro _ _ ⟨s, t, rfl, rfl⟩
 refine aw ?_
 refine ar dX ?_
 refine aa bY ?_
 refine bR (i + 1) ?_ (he := ?_)
 omega
 grind [JN, ZH, ZI]
 refine az ?_
 obtain rfl : i = fr.length := by omega
 exact ⟨_, ⟨b, rfl, rfl⟩, ZJ e⟩
theorem ZM {a : Po} {sp i} (b : i < a.length) : i * 1 + 1 ≤ (a.flatMap jm ++ sp).length := by rw [Qaf, AN]; omega
theorem JS {a : Po} {sp i} (b : i < a.length) : i * 1 + 1 ≤ (a.flatMap jW ++ sp).length := by rw [Qaf, w3]; omega
theorem ZN pb qs po fr (f w : Nat) (hf : f < po.length) (hff : f < fr.length) (hw : w < 16) (ha : d6 po f = (-1, false)) : sQ W0 39 [pQ pb, iQ f, iQ w] (dA pb (qs, po) :: cN qs fr :: R) (iQ 0) (dA pb (qs, po.set f (w, false)) :: cN qs (fr.set f cm) :: R) := by
 have h : dN fr.length f = true := by grind [dN]
 have d : (po.set f ((w : Int), false)).flatMap jW = po.flatMap jW := by
  grind [ZG]
 refine am func39 ntmps39 ?_
 refine xW (pb := pb) (by omega) fun g c p q r i j k s l m n => ?_
 refine aw ?_
 refine ah (ap sf (qu qs fr f)) ?_
 refine cz (fun a => ?_) fun a => ?_
 exact absurd a (by simp [h])
 refine cy rfl rfl rfl (fun b => ?_) fun b => ?_
 omega
 refine aw ?_
 refine aA rfl (fun o => ?_) fun o => ?_
 omega
 refine aw ?_
 refine aa (bJ hf) ?_
 refine aa (aE (aI (xX hf))) ?_
 refine ai (fun e => ?_) fun e => ?_
 exact absurd e (by rw [ha]; decide)
 refine aa (bJ hf) ?_
 refine ar (dq (ZM hf) (JO (t := false) hf)) ?_
 refine ah (ap call101 (JQ qs fr f hff)) ?_
 refine ac ?_
 exact ⟨_, ⟨rfl, rfl⟩, mY (by simp) (by simp) rfl d.symm j k (by grind [Qaf, AN]) l m n⟩
def p8 (po : Po) (w : Int) (k : Nat) : Nat := ((List.range k).filter fun f => decide (d6 po f = (w, false))).length
theorem JU po (w : Nat) : p8 po w po.length = (bN po w).length := by
 grind [p8, bN]
theorem ZO po w k : p8 po w (k + 1) = p8 po w k + if d6 po k = (w, false) then 1 else 0 := by
 grind [p8, List.range_succ]
theorem ZP po w k : p8 po w k ≤ k := by
 have := QaM (fun f => decide (d6 po f = (w, false))) (List.range k)
 rwa [QcN] at this
theorem ZQ pb qs po (w : Nat) (h0 : 0 < po.length) (h32 : po.length ≤ 32) : sQ W0 268 [pQ pb, iQ w] (dA pb (qs, po) :: R) (iQ ((bN po w).length)) (dA pb (qs, po) :: R) := by
 refine am func268 ntmps268 ?_
 refine d4 (fun i : Nat => i ≤ po.length) (fun i => [(0, pQ pb), (1, iQ w), (5, iQ (p8 po w i : Nat)), (6, iQ i)]) (fun _ => dA pb (qs, po) :: R) (fun i => po.length - i) 0 ?_ ?_
 omega
 intro i hi
 refine xW (pb := pb) (by omega) fun g c g2 c2 sp sp2 h1 h2 h3 k1 k2 k3 => ?_
 have hle := ZP po w i
 refine aw ?_
 refine bO (fun g3_8 => ?_) fun g3_8 => ?_
 refine aA rfl (fun c3 => ?_) fun c3 => ?_
 refine au 2 ?_
 refine cF (fun n : Nat => n = p8 po w (i + 1) ∧ i < po.length) (fun n => [(0, pQ pb), (1, iQ w), (5, iQ n), (6, iQ i)]) (fun _ => dA pb (qs, po) :: R) ?_ ?_
 refine au 2 ?_
 have hi1 : i < po.length := by omega
 have hs := ZO po w i
 refine aw ?_
 refine aa (bJ hi1) ?_
 refine aa (aE (aI (xX hi1))) ?_
 refine bO (fun g5_10 => ?_) fun g5_10 => ?_
 refine bO (fun g5_14 => ?_) fun g5_14 => ?_
 refine aa (bJ hi1) ?_
 refine aa (aE (aI (xY hi1))) ?_
 refine ai (fun c5 => ?_) fun c5 => ?_
 refine aa bY ?_
 refine bu (p8 po w i + 1) ?_ (he := ?_)
 grind
 grind [mY]
 refine bu (p8 po w i) ?_ (he := ?_)
 grind
 grind [mY]
 refine bu (p8 po w i) ?_ (he := ?_)
 refine ⟨?_, hi1⟩
 rw [hs, Qaa (by intro q; have q1 := Qai Prod.fst q; have q2 := Qai Prod.snd q; simp_all)]; rfl
 grind [mY]
 refine bu (p8 po w i) ?_ (he := ?_)
 grind
 grind [mY]
 intro n ⟨hn, hi1⟩
 subst hn
 refine aw ?_
 refine aa bY ?_
 exact bR (i + 1) (by omega)
 refine aw ?_
 refine ac ?_
 obtain rfl : i = po.length := by omega
 rw [JU]
 exact ⟨_, ⟨rfl, rfl⟩, mY rfl rfl rfl rfl h1 h2 h3 k1 k2 k3⟩
 refine ac ?_
 obtain rfl : i = po.length := by omega
 rw [JU]
 exact ⟨_, ⟨rfl, rfl⟩, mY rfl rfl rfl rfl h1 h2 h3 k1 k2 k3⟩
theorem JV pb qs po w f l (H : w < 16) (u : po.length ≤ 32) (o : bN po w = f :: l) : sQ W0 121 [pQ pb, iQ w] (dA pb (qs, po) :: R) (.tuple #[iQ f, iQ 0]) (dA pb (qs, po.set f (w, true)) :: R) := by
 have p := kB.1 (show f ∈ bN po w by rw [o]; simp)
 have r : ∀ j, j < f → d6 po j ≠ ((w : Int), false) := fun j I q => by
  have s := kB.2 ⟨by have := p.1; omega, q⟩
  have t := Ar po w
  rw [o] at s t
  rw [Qbi] at t
  rcases QaO.1 s with k | k
  omega
  grind
 have h : (po.set f ((w : Int), true)).flatMap jm = po.flatMap jm := by
  grind [JP]
 refine am func121 ntmps121 ?_
 refine cy rfl rfl rfl (fun d => ?_) fun d => ?_
 omega
 refine aw ?_
 refine aA rfl (fun x => ?_) fun x => ?_
 omega
 refine aw ?_
 refine d4 (fun i : Nat => i ≤ f) (fun i => [(0, pQ pb), (1, iQ w), (6, iQ i)]) (fun _ => dA pb (qs, po) :: R) (fun i => po.length - i) 0 ?_ ?_
 omega
 intro i J
 have y := p.1
 refine xW (pb := pb) (by omega) fun g c K L M z A B C D E N => ?_
 refine aw ?_
 refine bO (fun e => ?_) fun e => ?_
 refine ai (fun F => ?_) fun F => ?_
 have a : i < po.length := by omega
 refine aa (bJ a) ?_
 refine aa (aE (aI (xX a))) ?_
 refine bO (fun b => ?_) fun b => ?_
 refine aa (bJ a) ?_
 refine aa (aE (aI (xY a))) ?_
 refine ai (fun G => ?_) fun G => ?_
 have m : i = f := by
  grind
 subst m
 refine aa (bJ a) ?_
 refine ar (dq (JS a) (Ew (v := (w : Int)) a)) ?_
 refine az ?_
 exact ⟨_, ⟨rfl, rfl⟩, mY (by simp) (by simp) h.symm rfl A B C D E (by grind [Qaf, w3])⟩
 have n : i ≠ f := by
  grind
 refine aa bY ?_
 refine bR (i + 1) ?_ (he := ?_)
 omega
 grind [mY]
 have n : i ≠ f := by
  grind
 refine aa bY ?_
 refine bR (i + 1) ?_ (he := ?_)
 omega
 grind [mY]
 refine az ?_
 exfalso; omega
 refine az ?_
 exfalso; omega
theorem ZR a (c p : Nat) ws (f : 1 ≤ p) (b : p ≤ 8) (g : ws.length < 9223372036854775808) (i : ws.length ≤ c) : sQ W0 269 [.slice a ws.length c, iQ p] R (.slice a (aZ ws p).length c) R := by
 have d := w0 ws p
 refine am func269 ntmps269 ?_
 refine aA rfl (fun e => ?_) fun e => ?_
 omega
 refine aw ?_
 refine aa (sF rfl rfl (JI b)) ?_
 refine aa (ko (16 * p)) ?_
 refine aa (sF rfl rfl (Eu (16 * p) ws.length)) ?_
 refine aa (oL tH aW rfl rfl (h := min (16 * p) ws.length) rfl (by omega)) ?_
 refine ac ?_
 rw [d]
 exact ao
theorem ZS {ws i k} (a : k < 16) : (e7 ws i)[k]? = ws[16 * i + k]? := by
 grind [e7]
theorem ZT {f : Nat} {ws : List Nat} {i k : Nat} (d : k < 16) (b : List aB) : gK f ((e7 ws i).take (k + 1)) 0 b = match ws[16 * i + k]? with | some y => eJ (gK f ((e7 ws i).take k) 0 b) f (4 * k : Nat) 4 y | none => gK f ((e7 ws i).take k) 0 b := by
 have a := ZS (ws := ws) (i := i) d
 cases e : ws[16 * i + k]? with
 | none =>
  rw [e] at a
  have := List.getElem?_eq_none_iff.1 a
  rw [QaU (by omega), QaU this]
 | some y =>
  rw [e] at a
  obtain ⟨c, g⟩ := QbS.1 a
  rw [Qan c, g, Ea, QaR, Qbg (by omega), Qac]
theorem ZU pb qs pm b n x (h : ImOk x) (h0 : 0 < x.fr.length) a c ws (N : b < 16) (S : 1 ≤ n) (T : n ≤ 8) (O : pK x.pg 0 8) (hl : n ≤ (bN x.po b).length) (U : ∀ A, Ent A R → cG (aQ W0 A) a 1 iP ws) (V : ∀ y ∈ ws, y < 4294967296) (W : ws.length < 9223372036854775808) (X : ws.length ≤ c) : sQ W0 187 [pQ pb, pQ qs, pQ pm, iQ b, iQ n, .slice a ws.length c] (dA pb (qs, x.po) :: cN qs x.fr :: pt pm (dJ x.pg) :: R) (iQ 0) (dA pb (qs, (ci b (aZ ws n) n x).po) :: cN qs (ci b (aZ ws n) n x).fr :: pt pm (dJ (ci b (aZ ws n) n x).pg) :: R) := by
 have P := w0 ws n
 have Y := h.len
 have E : ∀ y ∈ aZ ws n, y < 4294967296 := fun y C => V y (QbK C)
 have s : ∀ i, ImOk (ci b (aZ ws n) i x) := fun i => ut N h
 have F : ∀ A, Ent A R → cG (aQ W0 A) a 1 iP (aZ ws n) := fun A Z => (U A Z).take _
 have p : ∀ i, (ci b (aZ ws n) i x).po.length ≤ 32 := fun i => (s i).po.len
 refine am func187 ntmps187 ?_
 refine cy rfl rfl rfl (fun t => ?_) fun t => ?_
 omega
 refine aw ?_
 refine cy rfl rfl rfl (fun u => ?_) fun u => ?_
 omega
 refine aw ?_
 refine cy rfl rfl rfl (fun q => ?_) fun q => ?_
 omega
 refine aw ?_
 refine aA rfl (fun c1 => ?_) fun c1 => ?_
 omega
 refine aw ?_
 refine d4 (fun i : Nat => i ≤ n) (fun i => [(0, pQ pb), (1, pQ qs), (2, pQ pm), (3, iQ b), (4, iQ n), (5, .slice a ws.length c), (13, iQ i)]) (fun i => dA pb (qs, x.po) :: cN qs x.fr :: pt pm (dJ x.pg) :: R) (fun i => n - i) 0 ?_ ?_
 omega
 intro i hi
 refine aw ?_
 refine ai (fun c4 => ?_) fun c4 => ?_
 refine ah (ap wN (uj pm x.pg h.pg i)) ?_
 refine bj fun bx => ?_
 refine ar aF ?_
 refine ai (fun Q => ?_) fun Q => ?_
 exact absurd Q (by rw [O i (QaF _) (by omega)]; decide)
 refine aa bY ?_
 exact bR (i + 1) (by omega)
 refine ah (ap call268 (ZQ pb qs x.po b (by omega) (p 0))) ?_
 refine aA rfl (fun c9 => ?_) fun c9 => ?_
 omega
 refine aw ?_
 refine ah (aC call269 (ZR a c n ws S T W X)) ?_
 refine d4 (fun i : Nat => i ≤ n) (fun i => [(0, pQ pb), (1, pQ qs), (2, pQ pm), (3, iQ b), (4, iQ n), (16, .slice a (aZ ws n).length c), (17, iQ i)]) (fun i => dA pb (qs, (ci b (aZ ws n) i x).po) :: cN qs (ci b (aZ ws n) i x).fr :: pt pm (dJ (ci b (aZ ws n) i x).pg) :: R) (fun i => n - i) 0 ?_ ?_
 omega
 intro i hi
 refine aw ?_
 refine ai (fun G => ?_) fun G => ?_
 have x0 : i < n := by omega
 have v := xK (who := b) (words := aZ ws n) (x := x) i
 have H := (xL (who := b) (words := aZ ws n) O h.pg.len i (by omega)).1
 obtain ⟨f, l, D⟩ : ∃ f l, bN (ci b (aZ ws n) i x).po b = f :: l := by
  cases e : bN (ci b (aZ ws n) i x).po b with
  | nil => rw [e] at v; simp at v; omega
  | cons f l => exact ⟨f, l, rfl⟩
 obtain ⟨y, C⟩ : ∃ y, ci b (aZ ws n) i x = y := ⟨_, rfl⟩
 have d := s i
 have r : ci b (aZ ws n) (i + 1) x = jz b (aZ ws n) y i := by rw [ci, C]
 have g := p i
 have I := H i (Qam _) (by omega)
 rw [C] at D d g I ⊢
 rw [jz, D] at r
 dsimp only at r
 have x1 := kB.1 (show f ∈ bN y.po b by rw [D]; simp)
 refine ah (ap call121 (JV pb qs y.po b f l N g D)) ?_
 refine ah (ap GO (Af pm y.pg d.pg i ((f : Int), 3))) ?_
 refine fM (fun k : Nat => k ≤ 16) (fun k => [(0, pQ pb), (1, pQ qs), (2, pQ pm), (3, iQ b), (4, iQ n), (16, .slice a (aZ ws n).length c), (17, iQ i), (18, iQ f), (20, iQ k)]) (fun k => dA pb (qs, y.po.set f ((b : Int), true)) :: cN qs (gK f ((e7 (aZ ws n) i).take k) 0 y.fr) :: pt pm (dJ (dO y.pg i ((f : Int), 3))) :: R) (fun k => 16 - k) 0 ?_ ?_ ?_ ?_
 omega
 · repeat (first | exact bK | refine bc rfl ?_)
 rw [show gK f ((e7 (aZ ws n) i).take 0) 0 y.fr = y.fr from rfl]
 exact IO
 intro k hk
 refine aw ?_
 refine aA rfl (fun J => ?_) fun J => ?_
 refine au 2 ?_
 refine cF (fun _ : Unit => k < 16) (fun _ => [(0, pQ pb), (1, pQ qs), (2, pQ pm), (3, iQ b), (4, iQ n), (16, .slice a (aZ ws n).length c), (17, iQ i), (18, iQ f), (20, iQ k)]) (fun _ => dA pb (qs, y.po.set f ((b : Int), true)) :: cN qs (gK f ((e7 (aZ ws n) i).take (k + 1)) 0 y.fr) :: pt pm (dJ (dO y.pg i ((f : Int), 3))) :: R) ?_ ?_
 refine au 2 ?_
 have j : k < 16 := by omega
 have m := ZT (f := f) (ws := aZ ws n) (i := i) j y.fr
 refine aw ?_
 refine aa (ko (16 * i)) ?_
 refine aa (dU (16 * i + k)) ?_
 refine ai (fun K => ?_) fun K => ?_
 have o : 16 * i + k < (aZ ws n).length := by omega
 obtain ⟨gb, go, L, w⟩ := (F (dA pb (qs, y.po.set f ((b : Int), true)) :: cN qs (gK f ((e7 (aZ ws n) i).take k) 0 y.fr) :: pt pm (dJ (dO y.pg i ((f : Int), 3))) :: R) inferInstance).at_ o
 obtain ⟨z, M⟩ : ∃ z, (aZ ws n)[16 * i + k] = z := ⟨_, rfl⟩
 rw [M] at w
 have B := E _ (QaG o)
 rw [M] at B
 obtain ⟨hF, x2⟩ := uq (f := f) (l := (e7 (aZ ws n) i).take k) (k := 0) d.fr
 rw [QaV o, M] at m
 dsimp only at m
 refine aa (ko (4 * k)) ?_
 refine aa (ko (16 * i)) ?_
 refine aa (dU (16 * i + k)) ?_
 refine aa (eB tH aW rfl L rfl rfl o (by first | exact Qac _ | rfl)) ?_
 refine aa (aE (w 0 _ rfl)) ?_
 refine ah (ap Cp (xt qs (gK f ((e7 (aZ ws n) i).take k) 0 y.fr) f (4 * k : Nat) 4 z B hF)) ?_
 refine bu () ?_ (he := ?_)
 exact j
 rw [m]
 exact IO
 refine bu () ?_ (he := ?_)
 exact j
 rw [m, Qbl (by omega)]
 exact IO
 intro _ j
 refine aw ?_
 refine aa bY ?_
 exact bR (k + 1) (by omega)
 refine aw ?_
 refine aa bY ?_
 refine bR (i + 1) ?_ (he := ?_)
 omega
 obtain rfl : k = 16 := by omega
 rw [r, show (e7 (aZ ws n) i).take 16 = e7 (aZ ws n) i from QaU (by rw [e7, QaR]; omega)]
 exact IO
 refine ac ?_
 obtain rfl : i = n := by omega
 exact ao
def uy (b : Nat) (L : List Int) : HP := chk (fun C => ∃ a c, C = [pt b (ag [.slice a L.length c] 479), osl 3 1 (.slice a L.length c) (L.flatMap lj)])
section
variable {W0 : World} {N : FSz} {K : Act → World → Prop} {e : b0} {A B R R1 R2 : List HP} {b n c : Nat} {L : List Int}
theorem ZV [f : Tk uy b A L R] (h : ∀ a c, av W0 N K e (pt b (ag [.slice a L.length c] 479) :: osl 3 1 (.slice a L.length c) (L.flatMap lj) :: R)) : av W0 N K e A :=
  fT (r := uy) (b := b) (nv fun C d => by obtain ⟨a, c, rfl⟩ := d; exact h a c)
theorem rP {a ys} [d : Tk pt b A (ag [.slice a n c] 479) R1] [e : Tk (osl 3 1) (.slice a n c) R1 ys R2] (f : n = L.length) (g : ys = L.flatMap lj) [q : Ent R2 B] : Ent A (uy b L :: B) := by
 subst f; subst g
 exact (Ent.ofPerm (d.perm.trans (e.perm.cons _))).trans ((fH (R := R2) (C := [_, _]) ⟨a, c, rfl⟩).trans (Ent.cons q))
end
theorem JW x : (lj x).length = 1 := rfl
theorem AO (L : List Int) : (L.flatMap lj).length = L.length := by rw [cJ JW]; omega
theorem ZW (L : List Int) j w : (L.flatMap lj).set j (iQ w) = (L.set j w).flatMap lj := by
 induction L generalizing j with
 | nil => rfl
 | cons x L a =>
  cases j with
  | zero => rfl
  | succ j => simp only [QaQ, lj, Qay, Qaw, Qcl] at a ⊢; rw [a]
theorem ZX (L : List Int) : fi (L.flatMap lj) = true := by
 induction L with
 | nil => rfl
 | cons x l a => rw [QaQ, fi, List.all_append, Qao]; exact ⟨rfl, a⟩
theorem ZY (n : Nat) (h : n ≤ 64) : sP W0 322 [iQ n] R (fun v B => ∃ b, v = .tuple #[pQ b, iQ 0] ∧ B = uy b (List.replicate n (-1)) :: R) := by
 refine am func322 ntmps322 ?_
 refine cy rfl rfl rfl (fun d => ?_) fun d => ?_
 omega
 refine aw ?_
 refine aA rfl (fun g => ?_) fun g => ?_
 omega
 refine aw ?_
 refine bz fun e => ?_
 refine fM (fun X : Nat × Option Addr × Nat => X.1 ≤ n) (fun X => [(0, iQ n), (4, pQ e), (5, iQ X.1)]) (fun X => pt e (ag [.slice X.2.1 X.1 X.2.2] 479) :: osl 3 1 (.slice X.2.1 X.1 X.2.2) ((List.replicate X.1 (-1)).flatMap lj) :: R) (fun X => n - X.1) (0, none, 0) ?_ ?_ ?_ ?_
 omega
 · repeat (first | exact bK | refine bc rfl ?_)
 exact Ent.cons eX
 intro ⟨i, a, c⟩ hi
 dsimp only at hi ⊢
 refine aw ?_
 refine ai (fun j => ?_) fun j => ?_
 refine dt (js ek aR m4 rfl rfl rfl rfl rfl (by decide) (by decide)) fun m => ?_
 refine aD rfl (et (sz := 1) (by_ := 8) (info := Tryz.t3) ek (by kernel_rfl) rfl rfl rfl rfl (by decide) rfl rfl ee rfl rfl (by simp only [maxLen]; omega) (by omega)) ?_
 rintro _ _ ⟨k, l, rfl, rfl⟩
 have f : (List.replicate i (-1)).flatMap lj ++ [Value.int .i64 (-1)] = (List.replicate (i + 1) (-1 : Int)).flatMap lj := by
  rw [QbL, Qbt]; rfl
 rw [f]
 refine aw ?_
 refine ar dX ?_
 refine aa bY ?_
 exact bR (i + 1, k, l) (by omega)
 refine az ?_
 obtain rfl : i = n := by omega
 exact ⟨_, ⟨e, rfl, rfl⟩, rP (by simp) rfl⟩
def p9 (L : List Int) (f k : Nat) (w : Int) : List Int := (List.range L.length).map fun j => if f ≤ j ∧ j < f + k then w else L.getD j (-1)
theorem Ey {L f k w} : (p9 L f k w).length = L.length := by simp [p9]
theorem ZZ {L f w} : p9 L f 0 w = L := by
 grind [QaP, Ey, p9]
theorem a0a {L f k w} (h : f + k < L.length) : (p9 L f k w).set (f + k) w = p9 L f (k + 1) w := by
 apply QaP
 simp [p9]
 grind [p9]
theorem a0b {L} {f k : Nat} {w} (h : j8 L f k w = 0) : mX L f k w = p9 L f k w := by
 grind [mX, p9]
theorem a0c {L} {f k i : Nat} {w} (a : ¬ ((f : Int) < 0 ∨ (k : Int) < 1 ∨ (L.length : Int) < f ∨ (L.length : Int) - f < k ∨ w < 0 ∨ 64 ≤ w)) (b : i < k) (h : 0 ≤ L.getD (f + i) (-1)) : j8 L f k w = 5 := by
 rw [j8, Qaa a, Qad]
 rw [Qbo]
 exact ⟨i, QbE.2 (by omega), Qah (by grind)⟩
theorem a0d {L} {f k : Nat} {w} (b : ¬ ((f : Int) < 0 ∨ (k : Int) < 1 ∨ (L.length : Int) < f ∨ (L.length : Int) - f < k ∨ w < 0 ∨ 64 ≤ w)) (h : ∀ j, j < k → ¬ 0 ≤ L.getD (f + j) (-1)) : j8 L f k w = 0 := by
 rw [j8, Qaa b, Qaa]
 intro q
 obtain ⟨i, c, a⟩ := Qbo.1 q
 have a := Qar a
 rw [Qae] at a
 exact h i (by grind) a
theorem a0e b L (J : L.length ≤ 64) f k w : sQ W0 323 [pQ b, iQ f, iQ k, iQ w] (uy b L :: R) (iQ (j8 L f k w)) (uy b (mX L f k w) :: R) := by
 refine am func323 ntmps323 ?_
 refine ZV (b := b) fun a c => ?_
 refine aw ?_
 refine cz (fun m => ?_) fun m => ?_
 refine ac ?_
 have d : j8 L f k w = 1 := by grind [j8]
 rw [mX, d, Qaa (by decide)]
 exact ⟨_, ⟨rfl, rfl⟩, rP rfl rfl⟩
 refine cz (fun o => ?_) fun o => ?_
 refine ac ?_
 have d : j8 L f k w = 1 := by grind [j8]
 rw [mX, d, Qaa (by decide)]
 exact ⟨_, ⟨rfl, rfl⟩, rP rfl rfl⟩
 refine cz (fun e => ?_) fun e => ?_
 refine ac ?_
 have d : j8 L f k w = 1 := by grind [j8]
 rw [mX, d, Qaa (by decide)]
 exact ⟨_, ⟨rfl, rfl⟩, rP rfl rfl⟩
 refine aa gF ?_
 refine cz (fun h => ?_) fun h => ?_
 refine ac ?_
 have d : j8 L f k w = 1 := by grind [j8]
 rw [mX, d, Qaa (by decide)]
 exact ⟨_, ⟨rfl, rfl⟩, rP rfl rfl⟩
 refine cz (fun l => ?_) fun l => ?_
 refine ac ?_
 have d : j8 L f k w = 1 := by grind [j8]
 rw [mX, d, Qaa (by decide)]
 exact ⟨_, ⟨rfl, rfl⟩, rP rfl rfl⟩
 refine ai (fun A => ?_) fun A => ?_
 refine ac ?_
 have d : j8 L f k w = 1 := by grind [j8]
 rw [mX, d, Qaa (by decide)]
 exact ⟨_, ⟨rfl, rfl⟩, rP rfl rfl⟩
 have x : ¬ (f < 0 ∨ k < 1 ∨ (L.length : Int) < f ∨ (L.length : Int) - f < k ∨ w < 0 ∨ 64 ≤ w) := by omega
 obtain ⟨f, rfl⟩ : ∃ B : Nat, f = (B : Int) := ⟨f.toNat, by omega⟩
 obtain ⟨k, rfl⟩ : ∃ C : Nat, k = (C : Int) := ⟨k.toNat, by omega⟩
 have D : f + k ≤ L.length := by omega
 refine sH (E := 3) (sz := 1) (a := a) (c := c) (n := L.length) (ys := L.flatMap lj) (fun F => ?_)
 obtain ⟨g, rfl⟩ := vN F (by grind [AO])
 refine aw ?_
 refine d4 (fun i : Nat => i ≤ k ∧ ∀ j, j < i → ¬ 0 ≤ L.getD (f + j) (-1)) (fun i => [(0, pQ b), (1, iQ f), (2, iQ k), (3, iQ w), (9, iQ i)]) (fun i => pt b (ag [.slice (some ⟨g, 0, none⟩) L.length c] 479) :: osl 3 1 (.slice (some ⟨g, 0, none⟩) L.length c) (L.flatMap lj) :: R) (fun i => k - i) 0 ?_ ?_
 grind
 intro i ⟨K, y⟩
 refine aw ?_
 refine ai (fun G => ?_) fun G => ?_
 have r : f + i < L.length := by omega
 have s : L[f + i]? = some (L.getD (f + i) (-1)) := by grind
 refine ae rfl (dU (f + i)) ?_
 refine ae rfl (bJ r) ?_
 refine ae rfl (cu di rfl (Jl (f := lj) (E := 3) (sz := 1) (n := L.length) (c := c) rfl JW (by decide) s 0 _ rfl)) ?_
 refine ae rfl (vf rfl rfl) (aL (aH ?_))
 refine aA rfl (fun t => ?_) fun t => ?_
 refine aO ?_
 refine aX (ae rfl (bA rfl) (aL (aH (dE (mB (iU (iU (mB (iU (ac ?_))))))))))
 have d : j8 L f k w = 5 := a0c x (by omega) t
 rw [mX, d, Qaa (by decide)]
 exact ⟨_, ⟨rfl, rfl⟩, rP rfl rfl⟩
 refine jd (oI (aH (aX (ae rfl (aM rfl) ?_))))
 refine ae rfl (db rfl rfl (by first | exact co (by omega) | rfl)) ?_
 refine ae rfl (bA rfl) (aL (aH (bR (i + 1) ?_)))
 refine ⟨by omega, fun j H => ?_⟩
 rcases QaC j i with q | q
 exact y j q
 rw [show j = i by omega]; exact t
 obtain rfl : i = k := by omega
 have d : j8 L f i w = 0 := a0d x y
 refine aD rfl (vx ek aR rfl) ?_
 rintro _ _ ⟨M, rfl, rfl⟩
 refine aw ?_
 refine aD rfl (et (sz := 1) (by_ := 8) (info := Tryz.t3) ek (by kernel_rfl) rfl rfl rfl rfl (by decide) rfl rfl (uc (E := 3) (sz := 1) (a := some ⟨g, 0, none⟩) (c := c) (n := L.length)) (by rw [AO, QaB]) (ZX L) (by simp only [maxLen]; omega) (by omega)) ?_
 rintro _ _ ⟨I, p, rfl, rfl⟩
 rw [Qaw, Qac]
 refine sH (E := 3) (sz := 1) (a := I) (c := p) (n := L.length) (ys := L.flatMap lj) (fun u => ?_)
 obtain ⟨z, rfl⟩ := vN u (by grind [AO])
 refine aw ?_
 refine fM (fun j : Nat => j ≤ i) (fun j => [(0, pQ b), (1, iQ f), (2, iQ i), (3, iQ w), (10, .slice (some ⟨z, 0, none⟩) L.length p), (11, iQ j)]) (fun j => pt b (ag [.slice (some ⟨g, 0, none⟩) L.length c] 479) :: osl 3 1 (.slice (some ⟨z, 0, none⟩) L.length p) ((p9 L f j w).flatMap lj) :: R) (fun j => i - j) 0 ?_ ?_ ?_ ?_
 exact QaF _
 · repeat (first | exact bK | refine bc rfl ?_)
 rw [ZZ]; exact inferInstance
 intro j H
 refine aw ?_
 refine ai (fun v => ?_) fun v => ?_
 refine aa (dU (f + j)) ?_
 refine aa (bJ (by omega)) ?_
 refine ar (Zd (E := 3) (sz := 1) (n := L.length) (c := p) (l' := (p9 L f (j + 1) w).flatMap lj) aR rfl rfl rfl (by rw [AO, Ey]; omega) (by rw [QaB, ZW, a0a (by omega)])) ?_
 refine aa bY ?_
 exact bR (j + 1) (by omega)
 refine ar dX ?_
 refine ac ?_
 obtain rfl : j = i := by omega
 rw [d, a0b d]
 exact ⟨_, ⟨rfl, rfl⟩, rP Ey.symm rfl⟩
theorem a0f {c : Nat} (h : c ≤ 8) : iw .i64 1 c = (2 ^ c : Nat) := by
 have : c = 0 ∨ c = 1 ∨ c = 2 ∨ c = 3 ∨ c = 4 ∨ c = 5 ∨ c = 6 ∨ c = 7 ∨ c = 8 := by omega
 rcases this with rfl | rfl | rfl | rfl | rfl | rfl | rfl | rfl | rfl <;> rfl
theorem a0g {l cats} : gL l cats = true ↔ 0 ≤ cats ∧ cats ≤ 8 ∧ 0 ≤ l ∧ l < (2 ^ cats.toNat : Nat) := by
 simp only [gL, Qao, Qak, rM]
 constructor
 rintro ⟨⟨⟨b, d⟩, e, g⟩, f⟩
 refine ⟨b, d, e, ?_⟩
 obtain ⟨c, rfl⟩ : ∃ c : Nat, cats = (c : Int) := ⟨cats.toNat, by omega⟩
 obtain ⟨x, rfl⟩ : ∃ x : Nat, l = (x : Int) := ⟨l.toNat, by omega⟩
 rw [jQ (k := .i64) (a := x) (s := c) (by show c ≤ 64; omega)] at f
 have h : x / 2 ^ c = 0 := by omega
 have := (Nat.div_eq_zero_iff_lt (Qcr c)).1 h
 rw [Qae]; omega
 rintro ⟨b, d, e, g⟩
 obtain ⟨c, rfl⟩ : ∃ c : Nat, cats = (c : Int) := ⟨cats.toNat, by omega⟩
 obtain ⟨x, rfl⟩ : ∃ x : Nat, l = (x : Int) := ⟨l.toNat, by omega⟩
 rw [Qae] at g
 have f : x < 2 ^ c := by omega
 have h : 2 ^ c ≤ 2 ^ 8 := Qcu (by decide) (by omega)
 refine ⟨⟨⟨b, d⟩, e, by omega⟩, ?_⟩
 rw [jQ (k := .i64) (a := x) (s := c) (by show c ≤ 64; omega), Nat.div_eq_of_lt f]; rfl
theorem Ez l cats : sQ W0 321 [iQ l, iQ cats] R (.bool (gL l cats)) R := by
 have b := a0g (l := l) (cats := cats)
 refine am func321 ntmps321 ?_
 refine bO (fun c => ?_) fun c => ?_
 refine bO (fun d => ?_) fun d => ?_
 refine bO (fun a => ?_) fun a => ?_
 obtain ⟨k, rfl⟩ : ∃ k : Nat, cats = (k : Int) := ⟨cats.toNat, by omega⟩
 have e := Qcr k
 rw [Qae] at b
 refine aa (lh rfl rfl (by omega) (a0f (by omega))) ?_
 refine ac ?_
 refine aG ?_
 refine Qai Value.bool ?_
 rw [Qag, b]
 first
   | (rw [Qak]; constructor
      · intro q; omega
      · intro q; omega)
   | (constructor
      · intro q; first | omega | (cases q)
      intro q; omega)
 refine ac ?_
 refine aG ?_
 refine Qai Value.bool ?_
 rw [Qag, b]
 first
   | (rw [Qak]; constructor
      · intro q; omega
      · intro q; omega)
   | (constructor
      · intro q; first | omega | (cases q)
      intro q; omega)
 refine ac ?_
 refine aG ?_
 refine Qai Value.bool ?_
 rw [Qag, b]
 first
   | (rw [Qak]; constructor
      · intro q; omega
      · intro q; omega)
   | (constructor
      · intro q; first | omega | (cases q)
      intro q; omega)
 refine ac ?_
 refine aG ?_
 refine Qai Value.bool ?_
 rw [Qag, b]
 first
   | (rw [Qak]; constructor
      · intro q; omega
      · intro q; omega)
   | (constructor
      · intro q; first | omega | (cases q)
      intro q; omega)
theorem xZ c i : sQ W0 255 [.agg (dC c).toArray, iQ i] R (.bool (ii c i)) R := by
 refine am func255 ntmps255 ?_
 refine bz fun b => ?_
 refine bO (fun a => ?_) fun a => ?_
 refine ac ?_
 refine aG ?_
 refine Qai Value.bool ?_
 rw [Qag, ii, Qak]
 first
   | (rw [Qak]; constructor
      · intro q; omega
      · intro q; omega)
   | (constructor
      · intro q; first | omega | (cases q)
      intro q; omega)
 refine ac ?_
 refine aG ?_
 refine Qai Value.bool ?_
 rw [Qag, ii, Qak]
 first
   | (rw [Qak]; constructor
      · intro q; omega
      · intro q; omega)
   | (constructor
      · intro q; first | omega | (cases q)
      intro q; omega)
theorem y3 {w : Nat → Bool} {i} (h : ∀ j, j < i → w j = false) (a : w i = false) : ∀ j, j < i + 1 → w j = false := fun j b => by
 rcases QaC j i with q | q
 exact h j q
 grind
theorem a0h c (h : CfOk W0 c) : sP W0 250 [.agg (dC c).toArray] R (fun v B => ∃ r, v = .tuple #[.bool (kD c), iQ r] ∧ B = R) := by
 refine am func250 ntmps250 ?_
 refine bz fun y => ?_
 refine cz (fun l => ?_) fun l => ?_
 refine az ?_
 rw [kD, Qah (by omega), Qbv]
 exact ⟨_, ⟨0, rfl, rfl⟩, IO⟩
 refine ai (fun D => ?_) fun D => ?_
 refine az ?_
 rw [kD, Qah (by omega), Qbv]
 exact ⟨_, ⟨0, rfl, rfl⟩, IO⟩
 refine d4 (fun i : Nat => i ≤ c.gl.length ∧ (∀ j, j < i → pM c.cats (c.gl.getD j (0, 0, 0)) = false)) (fun i => [(1, pQ y), (4, iQ i)]) (fun _ => pt y (ik c) :: R) (fun i => c.gl.length - i) 0 ?_ ?_
 grind
 intro i ⟨H, z⟩
 refine aw ?_
 refine ai (fun E => ?_) fun E => ?_
 have d : i < c.gl.length := by omega
 obtain ⟨g, o, n, A⟩ := (h.g []).at_ d
 obtain ⟨x, F⟩ : ∃ x, c.gl[i] = x := ⟨_, rfl⟩
 have p : c.gl.getD i (0, 0, 0) = x := by grind
 rw [F] at A
 have a : pM c.cats x = true → kD c = true := fun q => by
  rw [kD, vX (w := fun i => pM c.cats (c.gl.getD i (0, 0, 0))) d (by grind), Qda]
 have s := fun q => y3 (w := fun i => pM c.cats (c.gl.getD i (0, 0, 0))) z (show pM c.cats (c.gl.getD i (0, 0, 0)) = false by rw [p]; exact q)
 obtain ⟨v, C⟩ : ∃ v, gL x.1 c.cats = v := ⟨_, rfl⟩
 have t := xU (cats := c.cats) (g := x)
 have b := sV (cats := c.cats) (g := x)
 rw [C] at t b
 refine aa (eB np l9 rfl n rfl rfl d (by first | exact Qac _ | rfl)) ?_
 refine aa (df A.weak) ?_
 refine bj fun I => ?_
 refine fh (fN l9 rfl rfl rfl rfl rfl) ?_
 rintro _ _ rfl
 refine aL (aH (aO (aX ?_)))
 refine ae rfl (d5 rfl my rfl aR rfl (by first | exact Qac _ | rfl)) ?_
 refine ae rfl (cu di rfl (aI rfl)) ?_
 refine ae rfl (d5 rfl Cc rfl aR rfl (by first | exact Qac _ | rfl)) ?_
 refine ae rfl (cu di rfl (aI rfl)) ?_
 refine aD rfl (iE Of rfl (Ez x.1 c.cats)) ?_
 rintro _ J ⟨rfl, u⟩
 obtain rfl := u.symm
 rw [C]
 refine aw ?_
 refine cy rfl rfl rfl (fun m => ?_) fun m => ?_
 refine au 37 ?_
 refine az ?_
 rw [a (b (by grind))]
 exact ⟨_, ⟨_, rfl, rfl⟩, IO⟩
 refine ae rfl (d5 rfl my rfl aR rfl (by first | exact Qac _ | rfl)) ?_
 refine cI rfl rfl (ae rfl (cu di rfl (aI rfl)) ?_)
 refine cI rfl rfl (ae rfl (nu rfl rfl) (ae rfl (iu rfl rfl) (ae rfl (aM rfl) ?_)))
 refine cy rfl rfl rfl (fun e => ?_) fun e => ?_
 refine au 32 ?_
 refine az ?_
 rw [a (b (by grind))]
 exact ⟨_, ⟨_, rfl, rfl⟩, IO⟩
 refine ae rfl (d5 rfl my rfl aR rfl (by first | exact Qac _ | rfl)) ?_
 refine cI rfl rfl (ae rfl (cu di rfl (aI rfl)) ?_)
 refine cI rfl rfl (ae rfl (tQ rfl rfl) (ae rfl (iu rfl rfl) (ae rfl (aM rfl) ?_)))
 refine cy rfl rfl rfl (fun f => ?_) fun f => ?_
 refine au 27 ?_
 refine az ?_
 rw [a (b (by grind))]
 exact ⟨_, ⟨_, rfl, rfl⟩, IO⟩
 refine ae rfl (d5 rfl my rfl aR rfl (by first | exact Qac _ | rfl)) ?_
 refine cI rfl rfl (ae rfl (cu di rfl (aI rfl)) ?_)
 refine cI rfl rfl (ae rfl (nu rfl rfl) (ae rfl (iu rfl rfl) (ae rfl (aM rfl) ?_)))
 refine cy rfl rfl rfl (fun k => ?_) fun k => ?_
 refine au 22 ?_
 refine az ?_
 rw [a (b (by grind))]
 exact ⟨_, ⟨_, rfl, rfl⟩, IO⟩
 refine ae rfl (d5 rfl my rfl aR rfl (by first | exact Qac _ | rfl)) ?_
 refine cI rfl rfl (ae rfl (cu di rfl (aI rfl)) ?_)
 refine cI rfl rfl ?_
 refine ae rfl (d5 rfl my rfl aR rfl (by first | exact Qac _ | rfl)) ?_
 refine cI rfl rfl (ae rfl (cu di rfl (aI rfl)) ?_)
 refine cI rfl rfl ?_
 refine ae rfl (lg rfl rfl (co (by omega))) ?_
 refine cI rfl rfl (ae rfl (tQ rfl rfl) (ae rfl (iu rfl rfl) (aL (aH ?_))))
 refine ai (fun G => ?_) fun G => ?_
 refine az ?_
 rw [a (b (by grind))]
 exact ⟨_, ⟨_, rfl, rfl⟩, IO⟩
 refine aa bY ?_
 refine bR (i + 1) ?_
 grind
 refine az ?_
 obtain rfl : i = c.gl.length := by omega
 rw [kD, Qal (by omega), Qbs, xT z]
 exact ⟨_, ⟨0, rfl, rfl⟩, IO⟩
theorem a0i c (h : CfOk W0 c) : sP W0 251 [.agg (dC c).toArray] R (fun v B => ∃ r, v = .tuple #[.bool (oZ c), iQ r] ∧ B = R) := by
 refine am func251 ntmps251 ?_
 refine bz fun w => ?_
 refine ai (fun D => ?_) fun D => ?_
 refine az ?_
 rw [oZ, Qah (by omega), Qbv]
 exact ⟨_, ⟨0, rfl, rfl⟩, IO⟩
 refine aD rfl (aC call322 (ZY 32 (by decide))) ?_
 rintro _ y ⟨p, rfl, a⟩
 obtain rfl := a.symm
 refine aw ?_
 refine d4 (fun X : Nat × List Int => X.1 ≤ c.rl.length ∧ (∀ j, j < X.1 → rO c j = false) ∧ X.2.length = 32 ∧ RT (jB c X.1) X.2) (fun X => [(1, pQ w), (4, pQ p), (6, iQ X.1)]) (fun X => uy p X.2 :: pt w (ik c) :: R) (fun X => c.rl.length - X.1) (0, List.replicate 32 (-1)) ?_ ?_
 exact ⟨QaF _, fun j E => absurd E (QbF _), rfl, Zc 32⟩
 intro ⟨i, L⟩ ⟨F, s, l, d⟩
 dsimp only at F s l d ⊢
 refine aw ?_
 refine ai (fun G => ?_) fun G => ?_
 have e : i < c.rl.length := by omega
 obtain ⟨g, o, t, z⟩ := (h.r []).at_ e
 obtain ⟨x, H⟩ : ∃ x, c.rl[i] = x := ⟨_, rfl⟩
 have A : qH c i = x := by grind [qH]
 rw [H] at z
 have u : jB c (i + 1) = if gL x.1 c.cats = true then kE (jB c i) 32 x.2.1 x.2.2 i else jB c i := by rw [jB, A]
 have m : rO c i = !(gL x.1 c.cats && decide (iO (jB c i) 32 x.2.1 x.2.2 i = 0)) := by rw [rO, A]
 have I := Jv d (n := 32) (by rw [l]; rfl) x.2.1 x.2.2 i
 have J := Zb d (n := 32) (by rw [l]; rfl) (by decide) x.2.1 x.2.2 i
 rw [← I] at m
 have b : rO c i = true → oZ c = true := fun q => by rw [oZ, vX e q, Qda]
 obtain ⟨v, C⟩ : ∃ v, gL x.1 c.cats = v := ⟨_, rfl⟩
 rw [C] at u m
 refine aa (eB NN Ca rfl t rfl rfl e (by first | exact Qac _ | rfl)) ?_
 refine aa (df z.weak) ?_
 refine bj fun N => ?_
 refine fh (fN Ca rfl rfl rfl rfl rfl) ?_
 rintro _ _ rfl
 refine aL (aH (aO (aX ?_)))
 refine ae rfl (d5 rfl zv rfl aR rfl (by first | exact Qac _ | rfl)) ?_
 refine ae rfl (cu di rfl (aI rfl)) ?_
 refine ae rfl (d5 rfl Cc rfl aR rfl (by first | exact Qac _ | rfl)) ?_
 refine ae rfl (cu di rfl (aI rfl)) ?_
 refine aD rfl (iE Of rfl (Ez x.1 c.cats)) ?_
 rintro _ y ⟨rfl, a⟩
 obtain rfl := a.symm
 rw [C]
 refine aw ?_
 refine cy rfl rfl rfl (fun f => ?_) fun f => ?_
 refine au 24 ?_
 refine az ?_
 rw [b (by grind)]
 exact ⟨_, ⟨_, rfl, rfl⟩, IO⟩
 refine ae rfl (aM rfl) (cI rfl rfl ?_)
 refine ae rfl (d5 rfl zv rfl aR rfl (by first | exact Qac _ | rfl)) ?_
 refine cI rfl rfl (ae rfl (cu di rfl (aI rfl)) ?_)
 refine cI rfl rfl ?_
 refine ae rfl (d5 rfl zv rfl aR rfl (by first | exact Qac _ | rfl)) ?_
 refine cI rfl rfl (ae rfl (cu di rfl (aI rfl)) ?_)
 refine cI rfl rfl (ae rfl (aM rfl) (cI rfl rfl ?_))
 refine aD rfl (gU call323 rfl (a0e p L (by omega) x.2.1 x.2.2 i)) ?_
 rintro _ y ⟨rfl, a⟩
 obtain rfl := a.symm
 refine cI rfl rfl (ae rfl (nt rfl rfl) (ae rfl (iu rfl rfl) (aL (aH ?_))))
 refine ai (fun K => ?_) fun K => ?_
 refine az ?_
 rw [b (by grind)]
 exact ⟨_, ⟨_, rfl, rfl⟩, IO⟩
 have k : v = true := by grind
 have M : j8 L x.2.1 x.2.2 i = 0 := by omega
 rw [k, Qad rfl] at u
 rw [k, M] at m
 refine aa bY ?_
 exact bR (i + 1, mX L x.2.1 x.2.2 i) (⟨by omega, y3 s m, Jt.trans l, by rw [u]; exact J⟩)
 refine az ?_
 obtain rfl : i = c.rl.length := by omega
 rw [oZ, Qal (by omega), Qbs, xT s]
 exact ⟨_, ⟨0, rfl, rfl⟩, IO⟩
theorem a0j c (h : CfOk W0 c) : sP W0 254 [.agg (dC c).toArray] R (fun v B => ∃ r, v = .tuple #[.bool (od c), iQ r] ∧ B = R) := by
 refine am func254 ntmps254 ?_
 refine bz fun p => ?_
 refine cz (fun e => ?_) fun e => ?_
 refine az ?_
 rw [od, Qah (by omega), Qbv]
 exact ⟨_, ⟨0, rfl, rfl⟩, IO⟩
 refine ai (fun z => ?_) fun z => ?_
 refine az ?_
 rw [od, Qah (by omega), Qbv]
 exact ⟨_, ⟨0, rfl, rfl⟩, IO⟩
 refine d4 (fun i : Nat => i ≤ c.sl.length ∧ (∀ j, j < i → oY c (c.sl.getD j (0, 0)) = false)) (fun i => [(1, pQ p), (4, iQ i)]) (fun _ => pt p (ik c) :: R) (fun i => c.sl.length - i) 0 ?_ ?_
 grind
 intro i ⟨F, t⟩
 refine aw ?_
 refine ai (fun A => ?_) fun A => ?_
 have b : i < c.sl.length := by omega
 obtain ⟨g, o, k, u⟩ := (h.s []).at_ b
 obtain ⟨x, C⟩ : ∃ x, c.sl[i] = x := ⟨_, rfl⟩
 have l : c.sl.getD i (0, 0) = x := by grind
 rw [C] at u
 have a : oY c x = true → od c = true := fun q => by
  rw [od, vX (w := fun i => oY c (c.sl.getD i (0, 0))) b (by grind), Qda]
 have m := fun q => y3 (w := fun i => oY c (c.sl.getD i (0, 0))) t (show oY c (c.sl.getD i (0, 0)) = false by rw [l]; exact q)
 obtain ⟨v, y⟩ : ∃ v, ii c x.1 = v := ⟨_, rfl⟩
 have D : oY c x = !(v && decide (1 ≤ x.2 ∧ x.2 ≤ 32)) := by rw [oY, y]
 refine aa (eB NO NI rfl k rfl rfl b (by first | exact Qac _ | rfl)) ?_
 refine aa (df u.weak) ?_
 refine bj fun G => ?_
 refine ar aF ?_
 refine ah (aC Cu (xZ c x.1)) ?_
 rw [y]
 refine cz (fun f => ?_) fun f => ?_
 refine az ?_
 rw [a (by grind)]
 exact ⟨_, ⟨_, rfl, rfl⟩, IO⟩
 refine cz (fun d => ?_) fun d => ?_
 refine az ?_
 rw [a (by grind)]
 exact ⟨_, ⟨_, rfl, rfl⟩, IO⟩
 refine ai (fun E => ?_) fun E => ?_
 refine az ?_
 rw [a (by grind)]
 exact ⟨_, ⟨_, rfl, rfl⟩, IO⟩
 have n : v = true := by grind
 rw [n, Qah (by omega)] at D
 refine aa bY ?_
 refine bR (i + 1) ?_
 grind
 refine az ?_
 obtain rfl : i = c.sl.length := by omega
 rw [od, Qal (by omega), Qbs, xT t]
 exact ⟨_, ⟨0, rfl, rfl⟩, IO⟩
theorem w4 c (q : ∀ A, cG (aQ W0 A) c.ga 3 ig c.gl) (m : ∀ g ∈ c.gl, 1 ≤ g.2.1 ∧ g.2.1 ≤ 8 ∧ 0 ≤ g.2.2 ∧ g.2.2 ≤ 8 - g.2.1) (r : c.nl.length ≤ 4) (v : c.gl.length ≤ 4) : sQ W0 94 [.agg (dC c).toArray] R (iQ (gn c c.gl.length)) R := by
 have e := Ek m r
 refine am func94 ntmps94 ?_
 refine bz fun f => ?_
 refine d4 (fun i : Nat => i ≤ c.gl.length) (fun i => [(1, pQ f), (3, iQ (gn c i)), (4, iQ (i : Nat))]) (fun _ => pt f (ik c) :: R) (fun i => c.gl.length - i) 0 ?_ ?_
 omega
 intro i s
 refine aw ?_
 refine ai (fun t => ?_) fun t => ?_
 have b : i < c.gl.length := by omega
 obtain ⟨g, o, d, n⟩ := (q []).at_ b
 obtain ⟨x, p⟩ : ∃ x, c.gl[i] = x := ⟨_, rfl⟩
 rw [p] at n
 have h := m _ (QaG b)
 rw [p] at h
 have l : gn c (i + 1) = gn c i + (x.2.1 + x.2.2) := by grind [gn]
 have u := e i s
 refine fj [(f, 0, dC c), (g, o + i * 3, ig x)] 16 mixed rfl (bQ (bU n.weak bH)) (fun a => ?_)
 refine aj 0 4 a ?_
 refine ax 4 a (eB np l9 rfl d rfl rfl b (by first | exact Qac _ | rfl)) ?_
 refine aj 5 1 a ?_
 refine ax 6 a (aE (kJ (k := 1) (j := 1) rfl rfl)) ?_
 refine ax 7 a bY ?_
 refine aj 8 3 a ?_
 refine ax 11 a (eB np l9 rfl d rfl rfl b (by first | exact Qac _ | rfl)) ?_
 refine aj 12 1 a ?_
 refine ax 13 a (aE (kJ (k := 1) (j := 2) rfl rfl)) ?_
 refine ax 14 a (db rfl rfl (by rw [co (by omega), l]; omega : IntKind.wrap .i64 (gn c i + x.2.1 + x.2.2) = gn c (i + 1))) ?_
 refine aj 15 1 a ?_
 refine aJ ?_
 refine aa bY ?_
 exact bR (i + 1) (by omega)
 refine ac ?_
 obtain rfl : i = c.gl.length := by omega
 exact ao
theorem EA {W0 c} (h : CfOk W0 c) q : ∃ (b d j : Nat) (i : List Value), (∀ A, bC (aQ W0 A) b (d + j * 3) i) ∧ (ii c q = true → c.ga = some ⟨b, d, none⟩ ∧ q = j ∧ j < c.gl.length ∧ ∃ u, i = ig u ∧ kR c q = u.1) := by
 cases m : ii c q with
 | false => exact ⟨0, 0, 0, [], fun A k v n => by simp at n, fun h => by cases h⟩
 | true =>
  have o : 0 ≤ q ∧ q < c.gl.length := Qar m
  obtain ⟨j, rfl⟩ : ∃ j : Nat, q = (j : Int) := ⟨q.toNat, by omega⟩
  have e : j < c.gl.length := by omega
  obtain ⟨b, d, a, _⟩ := (h.g []).at_ e
  refine ⟨b, d, j, ig c.gl[j], fun A => ?_, fun _ => ⟨a, rfl, e, c.gl[j], rfl, ?_⟩⟩
  obtain ⟨p, r, l, f⟩ := (h.g A).at_ e
  rw [a] at l; cases l; exact f
  grind [kR]
theorem a0k {c q} (h : ii c q = true) : 0 ≤ q ∧ q < c.gl.length := Qar h
theorem a0l {c q} (h : ii c q = false) : ¬ (0 ≤ q ∧ q < c.gl.length) := of_decide_eq_false h
theorem a0m c (h : CfOk W0 c) : sP W0 253 [.agg (dC c).toArray] R (fun v B => ∃ r, v = .tuple #[.bool (jA c), iQ r] ∧ B = R) := by
 refine am func253 ntmps253 ?_
 refine bz fun E => ?_
 refine ai (fun X => ?_) fun X => ?_
 refine az ?_
 rw [jA, Qah (by omega), Qbv]
 exact ⟨_, ⟨0, rfl, rfl⟩, IO⟩
 refine d4 (fun i : Nat => i ≤ c.nl.length ∧ (∀ j, j < i → nJ c (c.nl.getD j (0, 0)) = false)) (fun i => [(1, pQ E), (4, iQ i)]) (fun _ => pt E (ik c) :: R) (fun i => c.nl.length - i) 0 ?_ ?_
 grind
 intro i ⟨hi, T⟩
 refine aw ?_
 refine ai (fun Y => ?_) fun Y => ?_
 have f : i < c.nl.length := by omega
 obtain ⟨g, o, F, U⟩ := (h.n []).at_ f
 obtain ⟨⟨p, q⟩, Z⟩ : ∃ x, c.nl[i] = x := ⟨_, rfl⟩
 have G : c.nl.getD i (0, 0) = (p, q) := by grind
 rw [Z] at U
 have b : nJ c (p, q) = true → jA c = true := fun z => by
  rw [jA, vX (w := fun i => nJ c (c.nl.getD i (0, 0))) f (by grind), Qda]
 have H := fun z => y3 (w := fun i => nJ c (c.nl.getD i (0, 0))) T (show nJ c (c.nl.getD i (0, 0)) = false by rw [G]; exact z)
 obtain ⟨g1, o1, j1, I, d, u⟩ := EA h p
 obtain ⟨g2, o2, j2, J, e, y⟩ := EA h q
 obtain ⟨V, A⟩ : ∃ w, ii c p = w := ⟨_, rfl⟩
 obtain ⟨W, C⟩ : ∃ w, ii c q = w := ⟨_, rfl⟩
 have hW : nJ c (p, q) = !(V && W && decide (p ≠ q) && oX (kR c p) (kR c q)) := by grind [nJ]
 rw [A] at u
 rw [C] at y
 refine aa (eB zn zi rfl F rfl rfl f (by first | exact Qac _ | rfl)) ?_
 refine aa (df U.weak) ?_
 refine bj fun bx => ?_
 refine ar aF ?_
 refine fj [(E, 0, dC c), (bx, 0, jk (p, q)), (g1, o1 + j1 * 3, I), (g2, o2 + j2 * 3, J)] 37 mixed rfl (bQ (bQ (bU (d _) (bU (e _) bH)))) (fun a => ?_)
 refine aj 0 3 a ?_
 refine cj 3 (aC Cu (xZ c p)) ?_; clear a
 rintro _ B_ ⟨rfl, l⟩
 obtain rfl := l.symm
 rw [A]
 refine ⟨(bQ (bQ (bU (d _) (bU (e _) bH)))), fun a => ?_⟩
 refine aj 4 2 a ?_
 refine mF (t := 27) rfl ?_ ?_
 intro D
 refine aj 6 31 a ?_
 refine aJ ?_
 refine az ?_
 rw [b (by grind)]
 exact ⟨_, ⟨_, rfl, rfl⟩, IO⟩
 intro D
 refine aj 6 3 a ?_
 refine cj 9 (aC Cu (xZ c q)) ?_; clear a
 rintro _ B_ ⟨rfl, l⟩
 obtain rfl := l.symm
 rw [C]
 refine ⟨(bQ (bQ (bU (d _) (bU (e _) bH)))), fun a => ?_⟩
 refine aj 10 3 a ?_
 refine mF (t := 34) rfl ?_ ?_
 intro m
 refine aj 13 24 a ?_
 refine aJ ?_
 refine az ?_
 rw [b (by grind)]
 exact ⟨_, ⟨_, rfl, rfl⟩, IO⟩
 intro m
 refine aj 13 7 a ?_
 refine mF (t := 41) rfl ?_ ?_
 intro s
 refine aj 20 17 a ?_
 refine aJ ?_
 refine az ?_
 rw [b (by grind)]
 exact ⟨_, ⟨_, rfl, rfl⟩, IO⟩
 intro s
 obtain rfl : V = true := by grind
 obtain rfl : W = true := by grind
 obtain ⟨K, L, M, u1, rfl, N⟩ := u rfl
 obtain ⟨O, P, Q, u2, rfl, S⟩ := y rfl
 rw [N, S] at hW
 refine aj 20 4 a ?_
 refine ax 24 a (eB np l9 rfl K rfl L M (by first | exact Qac _ | rfl)) ?_
 refine aj 25 1 a ?_
 refine ax 26 a (aE (kJ (k := 2) (j := 0) rfl rfl)) ?_
 refine aj 27 4 a ?_
 refine ax 31 a (eB np l9 rfl O rfl P Q (by first | exact Qac _ | rfl)) ?_
 refine aj 32 1 a ?_
 refine ax 33 a (aE (kJ (k := 3) (j := 0) rfl rfl)) ?_
 refine gy 34 rfl rfl (aC call324 (Yd u1.1 u2.1)) (bQ (bQ (bU (d _) (bU (e _) bH)))) fun a => ?_
 refine aj 35 2 a ?_
 refine aJ ?_
 refine ai (fun c7 => ?_) fun c7 => ?_
 refine az ?_
 rw [b (by grind)]
 exact ⟨_, ⟨_, rfl, rfl⟩, IO⟩
 refine aa bY ?_
 refine bR (i + 1) ?_
 grind
 refine az ?_
 obtain rfl : i = c.nl.length := by omega
 rw [jA, Qal (by omega), Qbs, xT T]
 exact ⟨_, ⟨0, rfl, rfl⟩, IO⟩
theorem a0n {c g k j} (a : j < k) h (e : (c.pl[j]).2 = g) : oi c g k = true := by
 grind [oi, Qbo, Qcp.2]
theorem a0o {c g k} (a : ∀ j, j < k → (c.pl.getD j (0, 0)).2 ≠ g) : oi c g k = false := by
 rw [oi, Qcw]
 intro x b
 obtain ⟨j, d, rfl⟩ := Qcp.1 b
 have := a j (by omega)
 rw [show c.pl.getD j (0, 0) = c.pl[j]'(by omega) by simp [List.getD, show j < c.pl.length by omega]] at this
 simpa using this
theorem a0p c (h : CfOk W0 c) : sP W0 252 [.agg (dC c).toArray] R (fun v B => ∃ r, v = .tuple #[.bool (p7 c), iQ r] ∧ B = R) := by
 refine am func252 ntmps252 ?_
 refine bz fun d => ?_
 refine ai (fun c1 => ?_) fun c1 => ?_
 refine az ?_
 rw [p7, Qah (by omega), Qbv]
 exact ⟨_, ⟨0, rfl, rfl⟩, IO⟩
 refine d4 (fun i : Nat => i ≤ c.pl.length ∧ (∀ j, j < i → qI c j = false)) (fun i => [(1, pQ d), (4, iQ i)]) (fun _ => pt d (ik c) :: R) (fun i => c.pl.length - i) 0 ?_ ?_
 grind
 intro i ⟨hi, hI⟩
 refine aw ?_
 refine ai (fun c4 => ?_) fun c4 => ?_
 have s : i < c.pl.length := by omega
 obtain ⟨g, o, O, hc⟩ := (h.p []).at_ s
 obtain ⟨⟨p, q⟩, hx⟩ : ∃ x, c.pl[i] = x := ⟨_, rfl⟩
 have x1 : c.pl.getD i (0, 0) = (p, q) := by grind
 rw [hx] at hc
 have b : qI c i = true → p7 c = true := fun z => by
  rw [p7, vX s z, Qda]
 have u := fun z => y3 (w := qI c) hI z
 obtain ⟨g1, o1, j1, P, H, I⟩ := EA h q
 obtain ⟨y, e⟩ : ∃ w, ii c q = w := ⟨_, rfl⟩
 obtain ⟨Q, S⟩ : ∃ w, gL p c.cats = w := ⟨_, rfl⟩
 have hW : qI c i = (!Q || (decide (q ≠ -1) && (!y || decide (p ≠ kR c q) || oi c q i))) := by grind [qI]
 rw [e] at I
 have A : y = true → 0 ≤ q := fun z => (a0k (e.trans z)).1
 have x2 : y = false → ¬ (0 ≤ q ∧ q < c.gl.length) := fun z => a0l (e.trans z)
 refine aa (eB zm zg rfl O rfl rfl s (by first | exact Qac _ | rfl)) ?_
 refine aa (df hc.weak) ?_
 refine bj fun l => ?_
 refine iW 2 aF ?_
 refine cF (fun _ : Unit => Q = true ∧ (q = -1 ∨ y = true)) (fun _ => [(1, pQ d), (4, iQ i), (5, pQ l)]) (fun _ => pt l (ag (jk (p, q)) 392) :: pt d (ik c) :: R) ?_ ?_
 refine au 6 ?_
 refine ah (aC Of (Ez p c.cats)) ?_
 rw [S]
 refine cz (fun J => ?_) fun J => ?_
 refine az ?_
 rw [b (by grind)]
 exact ⟨_, ⟨_, rfl, rfl⟩, IO⟩
 refine bO (fun C => ?_) fun C => ?_
 refine ah (aC Cu (xZ c q)) ?_
 rw [e]
 refine ai (fun c7 => ?_) fun c7 => ?_
 refine az ?_
 rw [b (by grind)]
 exact ⟨_, ⟨_, rfl, rfl⟩, IO⟩
 refine bu () ?_
 refine ⟨by simp_all, ?_⟩
 by_cases z : q = -1
 exact .inl z
 right; simp_all
 refine bu () ?_
 refine ⟨by simp_all, ?_⟩
 by_cases z : q = -1
 exact .inl z
 right; simp_all
 intro _ ⟨f, D⟩
 refine cF (fun _ : Unit => Q = true ∧ (q = -1 ∨ (y = true ∧ p = kR c q))) (fun _ => [(1, pQ d), (4, iQ i), (5, pQ l)]) (fun _ => pt l (ag (jk (p, q)) 392) :: pt d (ik c) :: R) ?_ ?_
 refine au 1 ?_
 refine fj [(d, 0, dC c), (l, 0, jk (p, q)), (g1, o1 + j1 * 3, P)] 15 mixed rfl (bQ (bQ (bU (H _) bH))) (fun a => ?_)
 refine aj 0 4 a ?_
 refine mF (t := 45) rfl ?_ ?_
 intro K
 obtain rfl : y = true := by
  rcases D with z | z
  exact absurd z (by omega)
  exact z
 obtain ⟨T, U, V, u1, rfl, L⟩ := I rfl
 refine aj 4 6 a ?_
 refine ax 10 a (eB np l9 rfl T rfl U V (by first | exact Qac _ | rfl)) ?_
 refine aj 11 1 a ?_
 refine ax 12 a (aE (kJ (k := 2) (j := 0) rfl rfl)) ?_
 refine aj 13 2 a ?_
 refine aJ ?_
 refine ai (fun c9 => ?_) fun c9 => ?_
 refine az ?_
 rw [b (by grind)]
 exact ⟨_, ⟨_, rfl, rfl⟩, IO⟩
 refine bu () ?_
 refine ⟨f, ?_⟩
 first
   | (left; rcases D with z | z
      · exact z
      · exact absurd (A z) (by omega))
   | exact .inr ⟨rfl, by rw [L]; omega⟩
 intro K
 refine aj 4 11 a ?_
 refine aJ ?_
 refine bu () ?_
 refine ⟨f, ?_⟩
 first
   | (left; rcases D with z | z
      · exact z
      · exact absurd (A z) (by omega))
   | exact .inr ⟨rfl, by rw [L]; omega⟩
 intro _ ⟨f, m⟩
 rw [f, show (!true) = false from rfl, Qbs] at hW
 refine aw ?_
 refine d4 (fun k : Nat => k ≤ i ∧ ∀ j, j < k → 0 ≤ q → (c.pl.getD j (0, 0)).2 ≠ q) (fun k => [(1, pQ d), (4, iQ i), (5, pQ l), (6, iQ k)]) (fun _ => pt l (ag (jk (p, q)) 392) :: pt d (ik c) :: R) (fun k => i - k) 0 ?_ ?_
 grind
 intro k ⟨hk, W⟩
 refine aw ?_
 refine ai (fun X => ?_) fun X => ?_
 have E : k < c.pl.length := by omega
 obtain ⟨g2, o2, M, N⟩ := (h.p []).at_ E
 obtain ⟨⟨p2, Y⟩, Z⟩ : ∃ x, c.pl[k] = x := ⟨_, rfl⟩
 have n : c.pl.getD k (0, 0) = (p2, Y) := by grind
 have x3 : Y = q → oi c q i = true := fun z => a0n (j := k) (by omega) E (by grind)
 rw [Z] at N
 refine fj [(d, 0, dC c), (l, 0, jk (p, q)), (g2, o2 + k * 2, jk (p2, Y))] 14 mixed rfl (bQ (bQ (bU N.weak bH))) (fun a => ?_)
 refine aj 0 4 a ?_
 refine mF (t := 66) rfl ?_ ?_
 intro F
 refine aj 4 3 a ?_
 refine ax 7 a (eB zm zg rfl M rfl rfl E (by first | exact Qac _ | rfl)) ?_
 refine aj 8 1 a ?_
 refine ax 9 a (aE (kJ (k := 2) (j := 1) rfl rfl)) ?_
 refine aj 10 4 a ?_
 refine aJ ?_
 refine ai (fun x0 => ?_) fun x0 => ?_
 refine az ?_
 have hz : y = true := by
  rcases m with z | z
  omega
  exact z.1
 rw [b (by grind)]
 exact ⟨_, ⟨_, rfl, rfl⟩, IO⟩
 refine aa bY ?_
 refine bR (k + 1) ?_
 refine ⟨by omega, fun j hj G => ?_⟩
 rcases QaC j k with z | z
 exact W j z G
 rw [show j = k by omega, n]
 dsimp only
 omega
 intro F
 refine aj 4 10 a ?_
 refine aJ ?_
 refine aa bY ?_
 refine bR (k + 1) ?_
 refine ⟨by omega, fun j hj G => ?_⟩
 rcases QaC j k with z | z
 exact W j z G
 rw [show j = k by omega, n]
 dsimp only
 omega
 refine aa bY ?_
 refine bR (i + 1) ?_
 refine ⟨by omega, u ?_⟩
 rw [hW]
 rcases m with z | ⟨z1, z2⟩
 rw [z]; rfl
 rw [z1, a0o (fun j hj => W j (by omega) (A z1)), Qal (by omega : ¬ p ≠ kR c q)]
 simp
 refine az ?_
 obtain rfl : i = c.pl.length := by omega
 rw [p7, Qal (by omega), Qbs, xT hI]
 exact ⟨_, ⟨0, rfl, rfl⟩, IO⟩
theorem AP {c} (h : jA c = false) : c.nl.length ≤ 4 := by
 grind [jA]
theorem a0q c (h : CfOk W0 c) : sP W0 174 [.agg (dC c).toArray] R (fun v B => ∃ A, v = .tuple #[iQ (ol c), iQ A] ∧ B = R) := by
 obtain ⟨N, t⟩ : ∃ w, ii c c.gate = w := ⟨_, rfl⟩
 have y : mW c = if c.gate = -1 then decide (c.quota ≠ 0) else !(N && decide (0 ≤ c.quota ∧ c.quota ≤ 64)) := by rw [mW, t]
 obtain ⟨O, C⟩ : ∃ x, ol c = x := ⟨_, rfl⟩
 obtain ⟨P, D⟩ : ∃ x, kD c = x := ⟨_, rfl⟩
 obtain ⟨Q, E⟩ : ∃ x, oZ c = x := ⟨_, rfl⟩
 obtain ⟨S, F⟩ : ∃ x, p7 c = x := ⟨_, rfl⟩
 obtain ⟨T, G⟩ : ∃ x, jA c = x := ⟨_, rfl⟩
 obtain ⟨U, H⟩ : ∃ x, od c = x := ⟨_, rfl⟩
 obtain ⟨m, I⟩ : ∃ x, mW c = x := ⟨_, rfl⟩
 have a : O = if c.cats < 0 ∨ 8 < c.cats then 12 else if P then 13 else if Q then 14 else if S then 15 else if T then 16 else if U then 17 else if m then 18 else if 32 < gn c c.gl.length then 19 else 0 := by grind [ol]
 rw [I] at y
 rw [C]
 refine am func174 ntmps174 ?_
 refine bz fun b1 => ?_
 refine cz (fun u => ?_) fun u => ?_
 refine az ?_
 rw [a, Qad (by omega)]
 exact ⟨_, ⟨0, rfl, rfl⟩, IO⟩
 refine ai (fun V => ?_) fun V => ?_
 refine az ?_
 rw [a, Qad (by omega)]
 exact ⟨_, ⟨0, rfl, rfl⟩, IO⟩
 rw [Qaa (by omega)] at a
 refine aD rfl (aC call250 (a0h c h)) ?_
 rintro _ z ⟨W, rfl, d⟩
 obtain rfl := d.symm
 rw [D]
 refine aw ?_
 refine ai (fun X => ?_) fun X => ?_
 refine az ?_
 rw [a, Qad (by omega)]
 exact ⟨_, ⟨W, rfl, rfl⟩, IO⟩
 rw [Qaa (by omega)] at a
 refine aD rfl (aC call251 (a0i c h)) ?_
 rintro _ z ⟨Y, rfl, d⟩
 obtain rfl := d.symm
 rw [E]
 refine aw ?_
 refine ai (fun Z => ?_) fun Z => ?_
 refine az ?_
 rw [a, Qad (by omega)]
 exact ⟨_, ⟨Y, rfl, rfl⟩, IO⟩
 rw [Qaa (by omega)] at a
 refine aD rfl (aC call252 (a0p c h)) ?_
 rintro _ z ⟨r3, rfl, d⟩
 obtain rfl := d.symm
 rw [F]
 refine aw ?_
 refine ai (fun J => ?_) fun J => ?_
 refine az ?_
 rw [a, Qad (by omega)]
 exact ⟨_, ⟨r3, rfl, rfl⟩, IO⟩
 rw [Qaa (by omega)] at a
 refine aD rfl (aC call253 (a0m c h)) ?_
 rintro _ z ⟨r4, rfl, d⟩
 obtain rfl := d.symm
 rw [G]
 refine aw ?_
 refine ai (fun K => ?_) fun K => ?_
 refine az ?_
 rw [a, Qad (by omega)]
 exact ⟨_, ⟨r4, rfl, rfl⟩, IO⟩
 rw [Qaa (by omega)] at a
 refine aD rfl (aC call254 (a0j c h)) ?_
 rintro _ z ⟨r5, rfl, d⟩
 obtain rfl := d.symm
 rw [H]
 refine aw ?_
 refine ai (fun L => ?_) fun L => ?_
 refine az ?_
 rw [a, Qad (by omega)]
 exact ⟨_, ⟨r5, rfl, rfl⟩, IO⟩
 rw [Qaa (by omega)] at a
 refine bO (fun o => ?_) fun o => ?_
 refine ah (aC Cu (xZ c c.gate)) ?_
 rw [t]
 refine cz (fun n => ?_) fun n => ?_
 refine az ?_
 have b : m = true := by
  grind
 rw [a, b]
 exact ⟨_, ⟨0, rfl, rfl⟩, IO⟩
 refine cz (fun e => ?_) fun e => ?_
 refine az ?_
 have b : m = true := by
  grind
 rw [a, b]
 exact ⟨_, ⟨0, rfl, rfl⟩, IO⟩
 refine cz (fun f => ?_) fun f => ?_
 refine az ?_
 have b : m = true := by
  grind
 rw [a, b]
 exact ⟨_, ⟨0, rfl, rfl⟩, IO⟩
 refine bO (fun i => ?_) fun i => ?_
 refine aA rfl (fun p => ?_) fun p => ?_
 refine au 8 ?_
 refine az ?_
 have b : m = true := by
  rw [y]; split
  exact Qah (by first | omega | simp_all)
  first
    | (rw [Qal (by omega), QcU]; rfl)
    | simp_all
 rw [a, b]
 exact ⟨_, ⟨0, rfl, rfl⟩, IO⟩
 refine au 4 ?_
 have b : m = false := by
  rw [y]; split
  exact Qal (by first | omega | simp_all)
  rw [Qah (by omega)]; simp_all
 rw [b] at a
 have j : kD c = false := by grind
 have k : jA c = false := by grind
 obtain ⟨M, q, r⟩ := vZ j
 refine aw ?_
 refine ah (aC zw (w4 c h.g (fun g s => (r g s).2) (AP k) q)) ?_
 refine ai (fun l => ?_) fun l => ?_
 refine az ?_
 rw [a, Qaa (by decide), Qad (by omega)]
 exact ⟨_, ⟨0, rfl, rfl⟩, IO⟩
 refine az ?_
 rw [a, Qaa (by decide), Qaa (by omega)]
 exact ⟨_, ⟨0, rfl, rfl⟩, IO⟩
 have b : m = false := by
  grind
 rw [b] at a
 have j : kD c = false := by grind
 have k : jA c = false := by grind
 obtain ⟨M, q, r⟩ := vZ j
 refine ah (aC zw (w4 c h.g (fun g s => (r g s).2) (AP k) q)) ?_
 refine ai (fun l => ?_) fun l => ?_
 refine az ?_
 rw [a, Qaa (by decide), Qad (by omega)]
 exact ⟨_, ⟨0, rfl, rfl⟩, IO⟩
 refine az ?_
 rw [a, Qaa (by decide), Qaa (by omega)]
 exact ⟨_, ⟨0, rfl, rfl⟩, IO⟩
 refine cz (fun e => ?_) fun e => ?_
 refine az ?_
 have b : m = true := by
  grind
 rw [a, b]
 exact ⟨_, ⟨0, rfl, rfl⟩, IO⟩
 refine cz (fun f => ?_) fun f => ?_
 refine az ?_
 have b : m = true := by
  grind
 rw [a, b]
 exact ⟨_, ⟨0, rfl, rfl⟩, IO⟩
 refine iF rfl rfl rfl (fun i => ?_) fun i => ?_
 refine au 10 ?_
 refine ai (fun p => ?_) fun p => ?_
 refine az ?_
 have b : m = true := by
  grind
 rw [a, b]
 exact ⟨_, ⟨0, rfl, rfl⟩, IO⟩
 have b : m = false := by
  grind
 rw [b] at a
 have j : kD c = false := by grind
 have k : jA c = false := by grind
 obtain ⟨M, q, r⟩ := vZ j
 refine ah (aC zw (w4 c h.g (fun g s => (r g s).2) (AP k) q)) ?_
 refine ai (fun l => ?_) fun l => ?_
 refine az ?_
 rw [a, Qaa (by decide), Qad (by omega)]
 exact ⟨_, ⟨0, rfl, rfl⟩, IO⟩
 refine az ?_
 rw [a, Qaa (by decide), Qaa (by omega)]
 exact ⟨_, ⟨0, rfl, rfl⟩, IO⟩
 refine au 12 ?_
 have b : m = false := by
  rw [y]; split
  exact Qal (by first | omega | simp_all)
  rw [Qah (by omega)]; simp_all
 rw [b] at a
 have j : kD c = false := by grind
 have k : jA c = false := by grind
 obtain ⟨M, q, r⟩ := vZ j
 refine aw ?_
 refine ah (aC zw (w4 c h.g (fun g s => (r g s).2) (AP k) q)) ?_
 refine ai (fun l => ?_) fun l => ?_
 refine az ?_
 rw [a, Qaa (by decide), Qad (by omega)]
 exact ⟨_, ⟨0, rfl, rfl⟩, IO⟩
 refine az ?_
 rw [a, Qaa (by decide), Qaa (by omega)]
 exact ⟨_, ⟨0, rfl, rfl⟩, IO⟩
theorem AQ c (h : CfOk W0 c) : sQ W0 93 [.agg (dC c).toArray] R (.bool (rt c)) R := by
 refine am func93 ntmps93 ?_
 refine bz fun d => ?_
 refine aD rfl (aC call174 (a0q c h)) ?_
 rintro _ e ⟨b, rfl, a⟩
 obtain rfl := a.symm
 refine aw ?_
 refine ac ?_
 refine aG ?_
 refine Qai Value.bool ?_
 rw [Qag, rt]; simp
end
section
def cT (c : Cfg) (i : Nat) : Int × Int × Int := c.gl.getD i (0, 0, 0)
def eh (c : Cfg) : Nat → Int
 | 0 => 0
 | i + 1 => eh c i + ((cT c i).2.1 + (cT c i).2.2)
theorem uz c : ∀ i, gn c i = eh c i + c.nl.length
 | 0 => by rw [gn, eh, Int.zero_add]
 | i + 1 => by rw [gn, eh, uz c i, cT]; omega
def kT (c : Cfg) (f : Int) : Option Nat := qD (fun i => decide (f < eh c (i + 1))) c.gl.length
def bI (c : Cfg) : Nat := (gn c c.gl.length).toNat
def a0r (b f : Int) : Option Nat → Int × Int
 | some i => (1, (i : Int))
 | none => (2, f - b)
def sW (c : Cfg) (f : Int) : Int × Int := if rt c = true ∧ 0 ≤ f ∧ f < gn c c.gl.length then a0r (eh c c.gl.length) f (kT c f) else (0, 0)
structure CfR (c : Cfg) : Prop where
  g1 : 1 ≤ c.gl.length
  g4 : c.gl.length ≤ 4
  gs : ∀ i, i < c.gl.length → 1 ≤ (cT c i).2.1 ∧ (cT c i).2.1 ≤ 8 ∧ 0 ≤ (cT c i).2.2 ∧ (cT c i).2.2 ≤ 8 - (cT c i).2.1
  nn : c.nl.length ≤ 4
  nd : 1 ≤ gn c c.gl.length ∧ gn c c.gl.length ≤ 32
theorem sX {c} (h : ∀ i, i < c.gl.length → 1 ≤ (cT c i).2.1 ∧ (cT c i).2.1 ≤ 8 ∧ 0 ≤ (cT c i).2.2 ∧ (cT c i).2.2 ≤ 8 - (cT c i).2.1) : ∀ i, i ≤ c.gl.length → i ≤ eh c i ∧ eh c i ≤ 8 * i
 | 0, _ => by simp [eh]
 | i + 1, a => by
  have := sX h i (by omega)
  have := h i (by omega)
  rw [eh]; omega
theorem a0s {c} (h : CfR c) {i} (a : i < c.gl.length) : eh c i < eh c (i + 1) := by
 have := h.gs i a
 rw [eh]; omega
theorem EB {c} (h : CfR c) {i j} (a : i ≤ j) (d : j ≤ c.gl.length) : eh c i ≤ eh c j := by
 induction j with
 | zero => obtain rfl : i = 0 := by omega
           exact Qcb _
 | succ j b =>
  rcases QaC i (j + 1) with k | k
  have := b (by omega) (by omega)
  have := a0s h (i := j) (by omega)
  omega
  grind
theorem jC {c} (h : rt c = true) : CfR c := by
 obtain ⟨_, _, d, _, _, l, _, _, e⟩ := JB h
 obtain ⟨f, g, j⟩ := vZ d
 have k : c.nl.length ≤ 4 := by
  grind [jA]
 have a : ∀ i, i < c.gl.length → 1 ≤ (cT c i).2.1 ∧ (cT c i).2.1 ≤ 8 ∧ 0 ≤ (cT c i).2.2 ∧ (cT c i).2.2 ≤ 8 - (cT c i).2.1 := fun i b => by
  have := (j _ (QaG b)).2
  rwa [show cT c i = c.gl[i] by simp [cT, List.getD, b]]
 have := sX a c.gl.length (Qam _)
 exact ⟨f, g, a, k, by rw [uz]; omega, e⟩
theorem AR {c} (h : CfR c) {f i} : (kT c f = some i ↔ i < c.gl.length ∧ f < eh c (i + 1) ∧ (0 < i → eh c i ≤ f)) := by
 rw [kT, qD, List.find?_eq_some_iff_getElem]
 simp only [Qak]
 constructor
 rintro ⟨a, k, d, rfl, b⟩
 rw [QcG] at a ⊢
 simp only [QcN] at d
 refine ⟨d, a, fun g => ?_⟩
 have := b (k - 1) (by omega)
 simp only [QcG, Bool.not_eq_true', QcC] at this
 rw [show k - 1 + 1 = k by omega] at this
 omega
 rintro ⟨a, b, e⟩
 refine ⟨b, i, by simpa using a, by simp, fun j l => ?_⟩
 simp only [QcG, Bool.not_eq_true', QcC]
 have := EB h (i := j + 1) (j := i) (by omega) (by omega)
 have := e (by omega)
 omega
def uA : Option Nat → Int × Bool
 | some i => ((i : Int), false)
 | none => (-1, false)
def dv (c : Cfg) (k : Nat) : Po := (List.range (bI c)).map fun g => if g < k then uA (kT c g) else (-1, false)
theorem nK c k : (dv c k).length = bI c := by simp [dv]
theorem uB {c k f} (a : f < bI c) : d6 (dv c k) f = if f < k then uA (kT c f) else (-1, false) := by
 grind [d6, dv]
theorem JX c : dv c 0 = List.replicate (bI c) (-1, false) := by
 apply QaP
 simp [dv]
 grind [dv]
theorem a0t {c k i} (a : k < bI c) (h : kT c k = some i) : dv c (k + 1) = (dv c k).set k (i, false) := by
 apply QaP
 simp [dv]
 intro j b d
 rw [List.getElem_set]
 simp only [dv, List.getElem_map, QcG]
 by_cases e : k = j
 grind [uA]
 grind
theorem a0u {c} {k : Nat} (h : kT c k = none) : dv c (k + 1) = dv c k := by
 apply QaP
 simp [dv]
 grind [dv, QcG, uA]
theorem y4 {c} (h : CfR c) k : PoOk (dv c k) := ⟨by rw [nK, bI]; have := h.nd; omega, fun f a => by
 rw [nK] at a
 rw [uB a]
 split
 cases e : kT c f with
 | none => simp [uA]
 | some i =>
  have := ((AR h).1 e).1
  have := h.g4
  simp only [uA]; omega
 simp⟩
theorem JY : ∀ {l m : List Nat}, l.Nodup → (∀ x ∈ l, x ∈ m) → l.length ≤ m.length
 | [], _, _, _ => QaF _
 | x :: l, m, a, h => by
  rw [Qbx] at a
  have c := h x (by simp)
  have := JY (l := l) (m := m.erase x) a.2 fun y d => by
   have b : y ≠ x := fun e => a.1 (by grind)
   rw [List.mem_erase_of_ne b]
   exact h y (QbJ _ d)
  rw [List.length_erase_of_mem c] at this
  have := List.length_pos_of_mem c
  rw [QaK]; omega
theorem AS {c} (h : CfR c) {i} (e : i < c.gl.length) : (cT c i).2.1 + (cT c i).2.2 ≤ ((bN (dv c (bI c)) i).length) := by
 obtain ⟨a, g⟩ : ∃ a : Nat, eh c i = (a : Int) := ⟨(eh c i).toNat, by have := sX h.gs i (by omega); omega⟩
 have o := h.gs i e
 obtain ⟨n, f⟩ : ∃ n : Nat, (cT c i).2.1 + (cT c i).2.2 = (n : Int) := ⟨((cT c i).2.1 + (cT c i).2.2).toNat, by omega⟩
 have p : eh c (i + 1) = (a : Int) + n := by rw [eh, g, f]
 have q := EB h (i := i + 1) (j := c.gl.length) (by omega) (Qam _)
 have k := uz c c.gl.length
 have d : ∀ x ∈ List.range' a n, x ∈ bN (dv c (bI c)) i := fun x l => by
  rw [List.mem_range'_1] at l
  have b : x < bI c := by rw [bI]; omega
  rw [kB, nK, uB b, Qad b, (AR h (i := i)).2 ⟨e, by omega, fun _ => by omega⟩]
  exact ⟨b, rfl⟩
 have m : (List.range' a n).Nodup := List.nodup_range' ..
 have := JY m d
 rw [List.length_range'] at this
 rw [f]; omega
end
section
open Go.RowKit
structure CfK (W0 : World) (c : Cfg) : Prop where
  ok : CfOk W0 c
  gc : c.gl.length ≤ c.gc
theorem JZ {c} (h : CfR c) : (∀ g ∈ c.gl, 1 ≤ g.2.1 ∧ g.2.1 ≤ 8 ∧ 0 ≤ g.2.2 ∧ g.2.2 ≤ 8 - g.2.1) := fun g b => by
 obtain ⟨i, a, rfl⟩ := QbP b
 have := h.gs i a
 rwa [show cT c i = c.gl[i] by simp [cT, List.getD, a]] at this
def w5 (c : Cfg) : Nat := if rt c then bI c else 0
theorem a0v c (h : CfK W0 c) (b : CfR c) n (t : n ≤ c.gl.length) : sQ W0 70 [.agg (dC c).toArray, iQ n] R (iQ (eh c n)) R := by
 have m := h.gc
 have p := b.g4
 refine am func70 ntmps70 ?_
 refine bz fun u => ?_
 refine aa (oL np l9 rfl rfl (h := n) rfl (by omega)) ?_
 refine d4 (fun i : Nat => i ≤ n) (fun i => [(5, iQ (eh c i)), (11, .slice c.ga n c.gc), (12, iQ n), (13, iQ i)]) (fun _ => R) (fun i => n - i) 0 ?_ ?_
 omega
 intro i v
 refine aw ?_
 refine ai (fun q => ?_) fun q => ?_
 have a : i < c.gl.length := by omega
 have d : i < n := by omega
 obtain ⟨g, o, e, k⟩ := (h.ok.g R).at_ a
 obtain ⟨x, r⟩ : ∃ x, c.gl[i] = x := ⟨_, rfl⟩
 rw [r] at k
 have l : cT c i = x := by grind [cT]
 have f := b.gs i a
 rw [l] at f
 have j : eh c (i + 1) = eh c i + (x.2.1 + x.2.2) := by rw [eh, l]
 have s := sX b.gs i (by omega)
 refine aa (eB np l9 rfl e rfl rfl d (by first | exact Qac _ | rfl)) ?_
 refine aa (df k.weak) ?_
 refine bj fun w => ?_
 refine fh (fN l9 rfl rfl rfl rfl rfl) ?_
 rintro _ _ rfl
 refine aL (aH (aX (ae rfl (aM rfl) ?_)))
 refine ae rfl (d5 rfl my rfl aR rfl (by first | exact Qac _ | rfl)) ?_
 refine ae rfl (cu di rfl (aI rfl)) ?_
 refine ae rfl (d5 rfl my rfl aR rfl (by first | exact Qac _ | rfl)) ?_
 refine ae rfl (cu di rfl (aI rfl)) ?_
 refine ae rfl (db rfl rfl (co (by omega))) ?_
 refine aa (db rfl rfl (by rw [co (by omega)]; exact j.symm : IntKind.wrap .i64 (eh c i + (x.2.1 + x.2.2)) = eh c (i + 1))) ?_
 refine aa bY ?_
 exact bR (i + 1) (by omega)
 refine ac ?_
 obtain rfl : i = n := by omega
 exact ao
theorem a0w {c f i} (a : i < c.gl.length) (h : f < eh c (i + 1)) (b : ∀ j, j < i → ¬ f < eh c (j + 1)) : kT c f = some i :=
  Jg a (Qah h) fun j d => Qal (b j d)
theorem a0x {c f} (a : ∀ j, j < c.gl.length → ¬ f < eh c (j + 1)) : kT c f = none := Jh fun j b => Qal (a j b)
@[reducible] def EC (x : Int × Int) : List Value := [.int .i64 x.1, .int .i64 x.2]
def lP (c : Cfg) (i : Int) : Int := if rt c = true ∧ 0 ≤ i ∧ i < c.nl.length then eh c c.gl.length + i else -1
theorem a0y c (h : CfK W0 c) i : sQ W0 186 [.agg (dC c).toArray, iQ i] R (iQ (lP c i)) R := by
 obtain ⟨w, f⟩ : ∃ w, rt c = w := ⟨_, rfl⟩
 have j : lP c i = if w = true ∧ 0 ≤ i ∧ i < c.nl.length then eh c c.gl.length + i else -1 := by rw [lP, f]
 rw [j]
 refine am func186 ntmps186 ?_
 refine bz fun o => ?_
 refine ah (aC call68 (Zo c h.ok)) ?_
 rw [f]
 refine cz (fun a => ?_) fun a => ?_
 refine ac ?_
 rw [Qaa (by grind)]
 exact ao
 refine cz (fun b => ?_) fun b => ?_
 refine ac ?_
 rw [Qaa (by grind)]
 exact ao
 refine ai (fun k => ?_) fun k => ?_
 refine ac ?_
 rw [Qaa (by grind)]
 exact ao
 have d : w = true := by simp_all
 have e := jC (f.trans d)
 have l := e.g4
 have m := e.nn
 have g : i < c.nl.length := by omega
 rw [Qad ⟨d, by omega, g⟩]
 have n := sX e.gs c.gl.length (Qam _)
 refine ah (aC call70 (a0v c h e c.gl.length (Qam _))) ?_
 refine aa bY ?_
 exact ac ao
theorem a0z c (h : CfOk W0 c) : sQ W0 32 [.agg (dC c).toArray] R (iQ (w5 c)) R := by
 refine am func32 ntmps32 ?_
 refine bz fun f => ?_
 refine ah (aC GP (AQ c h)) ?_
 refine ai (fun d => ?_) fun d => ?_
 refine ac ?_
 have a : rt c = false := by grind
 rw [w5, a]
 exact ao
 have a : rt c = true := by grind
 have b := jC a
 refine ah (aC zw (w4 c h.g (JZ b) b.nn b.g4)) ?_
 refine ac ?_
 have e : ((w5 c : Nat) : Int) = gn c c.gl.length := by
  have := b.nd
  rw [w5, Qad a, bI]; omega
 rw [e]
 exact ao
theorem a0A c (h : CfK W0 c) (f : Nat) (m : rt c = true) (z : f < gn c c.gl.length) : sQ W0 37 [.agg (dC c).toArray, iQ f] R (.agg (EC (sW c f)).toArray) R := by
 have e := jC m
 have A := e.g4
 have B := e.nd
 have C := uz c c.gl.length
 rw [sW, Qad ⟨m, by omega, z⟩]
 refine am func37 ntmps37 ?_
 refine bz fun n => ?_
 refine bj fun u => ?_
 refine ah (aC GP (AQ c h.ok)) ?_
 rw [m]
 refine cz (fun d => ?_) fun d => ?_
 exact absurd d (by decide)
 refine aA rfl (fun v => ?_) fun v => ?_
 first | exact absurd v (by decide) | (exfalso; omega)
 refine aw ?_
 refine d4 (fun i : Nat => i ≤ c.gl.length ∧ ∀ j, j < i → ¬ (f : Int) < eh c (j + 1)) (fun i => [(1, iQ f), (2, pQ n), (4, pQ u), (5, iQ (eh c i)), (6, iQ i)]) (fun _ => pt n (ik c) :: pt u (ag [iQ 0, iQ 0] 46) :: R) (fun i => c.gl.length - i) 0 ?_ ?_
 grind
 intro i ⟨I, p⟩
 refine aw ?_
 refine ai (fun D => ?_) fun D => ?_
 have a : i < c.gl.length := by omega
 obtain ⟨g, o, l, w⟩ := (h.ok.g []).at_ a
 obtain ⟨x, E⟩ : ∃ x, c.gl[i] = x := ⟨_, rfl⟩
 rw [E] at w
 have y : cT c i = x := by grind [cT]
 have r := e.gs i a
 rw [y] at r
 have F : eh c (i + 1) = eh c i + (x.2.1 + x.2.2) := by rw [eh, y]
 have G := sX e.gs i (by omega)
 refine fj [(n, 0, dC c), (g, o + i * 3, ig x)] 16 mixed rfl (bQ (bU w.weak bH)) (fun b => ?_)
 refine aj 0 4 b ?_
 refine ax 4 b (eB np l9 rfl l rfl rfl a (by first | exact Qac _ | rfl)) ?_
 refine aj 5 1 b ?_
 refine ax 6 b (aE (kJ (k := 1) (j := 1) rfl rfl)) ?_
 refine ax 7 b bY ?_
 refine aj 8 3 b ?_
 refine ax 11 b (eB np l9 rfl l rfl rfl a (by first | exact Qac _ | rfl)) ?_
 refine aj 12 1 b ?_
 refine ax 13 b (aE (kJ (k := 1) (j := 2) rfl rfl)) ?_
 refine ax 14 b (HJ (eh c (i + 1))) ?_
 refine aj 15 1 b ?_
 refine aJ ?_
 refine ai (fun s => ?_) fun s => ?_
 refine ar aF ?_
 refine aV (.cons (bi isAgg46 ND rfl rfl) .nil) ?_
 rw [a0w a s p]
 exact ao
 refine aa bY ?_
 refine bR (i + 1) ?_
 refine ⟨by omega, fun j J => ?_⟩
 rcases QaC j i with q | q
 exact p j q
 rw [show j = i by omega]; exact s
 obtain rfl : i = c.gl.length := by omega
 rw [a0x p]
 have H := sX e.gs c.gl.length (Qam _)
 refine aa gF ?_
 refine aA rfl (fun t => ?_) fun t => ?_
 refine au 4 ?_
 refine aa gF ?_
 refine ar aF ?_
 exact aV (.cons (bi isAgg46 ND rfl rfl) .nil) ao
 omega
theorem a0B c (h : CfOk W0 c) (f : rt c = true) (i : Int) (k : 0 ≤ i) (l : i < c.nl.length) : sQ W0 110 [.agg (dC c).toArray, iQ i] R (iQ (lP c i)) R := by
 have e := jC f
 have m := e.nd
 have n := e.nn
 have o := uz c c.gl.length
 rw [lP, Qad ⟨f, k, l⟩]
 refine am func110 ntmps110 ?_
 refine bz fun p => ?_
 refine ah (aC GP (AQ c h)) ?_
 rw [f]
 refine cz (fun a => ?_) fun a => ?_
 exact absurd a (by decide)
 refine cy rfl rfl rfl (fun b => ?_) fun b => ?_
 first | exact absurd b (by decide) | (exfalso; omega)
 refine aw ?_
 refine aA rfl (fun j => ?_) fun j => ?_
 first | exact absurd j (by decide) | (exfalso; omega)
 refine aw ?_
 refine bq [p] 9 fun d => ?_
 refine aj 0 1 d ?_
 refine aj 2 3 d ?_
 refine aj 6 1 d ?_
 refine cg 1 (aC zw (w4 c h.g (JZ e) e.nn e.g4)) fun d => ?_
 refine ax 5 d gF ?_
 refine ax 7 d (HJ (eh c c.gl.length + i)) ?_
 refine aj 8 1 d ?_
 refine aJ ?_
 exact ac ao
abbrev dD (rl : List Nat) (pc : Nat) : Obj := ag (rl.map wV ++ [.bool true, wV pc]) 304
theorem b0f {a : List Nat} {pc} (h : a.length = 16) : (a.map wV ++ [Value.bool true, wV pc]).length = 18 := by simp [h]
theorem a0C {a : List Nat} {pc} (h : a.length = 16) : ((a.map wV ++ [Value.bool true, wV pc]).drop 0).take 16 = a.map wV := by
 grind
theorem K0 {a : List Nat} {pc} (h : a.length = 16) : (a.map wV ++ [Value.bool true, wV pc])[16]? = some (.bool true) := by
 grind
theorem a0D {a : List Nat} {pc} (h : a.length = 16) : (a.map wV ++ [Value.bool true, wV pc])[17]? = some (wV pc) := by
 grind
theorem a0E {a : List Nat} {pc q} (h : a.length = 16) : (a.map wV ++ [Value.bool true, wV pc]).set 17 (wV q) = a.map wV ++ [.bool true, wV q] := by
 simp_all
theorem a0F {a : List Nat} {pc i x} (h : a.length = 16) (b : i < 16) : (a.map wV ++ [Value.bool true, wV pc]).set (i * 1) (wV x) = (a.set i x).map wV ++ [.bool true, wV pc] := by
 simp_all
theorem AT (a : List Nat) : fi (a.map wV) = true := by simp [fi, wV, Value.oneCell']
section
variable {P : Program} {S : World → Prop} {N : FSz} {e : b0} {t : TypeId} {l : List Value} {v : Value}
theorem a0G {E n i : Nat} {y} (h : P.underlying t = some (.array n E)) (j : ∀ w, (sizeOf E).run P w = .ok 1 w) (k : ∀ w, (zeroValue t).run P w = .ok (.agg l.toArray) w)
    (m : ev e y = some v) (o : v.oneCell' = true) (u : i < l.length) : bP P S N e (.build t #[(i, y)]) (.agg (l.set i v).toArray) := fun a w _ _ _ _ _ p _ => by
 have q : Instr.build t ((#[(i, y)] : Array (Nat × Operand)).map fun (i, x) => (i, a.eval x)) = (do
     let zero := (← zeroValue t).cells
     match ← underlying t with
     | .struct c =>
       let d ← c.mapM sq
       let some b := Instr.fill (d[·]?) zero ((#[(i, y)] : Array (Nat × Operand)).map fun (i, x) => (i, a.eval x)).toList | stuck "build: no such field, or a part of the wrong size"
       pure (.agg b)
     | .array _ g =>
       let f ← sizeOf g
       let some b := Instr.fill (fun i => some (i * f, f)) zero ((#[(i, y)] : Array (Nat × Operand)).map fun (i, x) => (i, a.eval x)).toList | stuck "build: a part of the wrong size"
       pure (.agg b)
     | _ => stuck "build: struct or array type expected") := rfl
 have r : ¬ (i + 1 > l.length) := by omega
 have s : Instr.fill (fun i => some (i * 1, 1)) l.toArray [(i, a.eval y)] = some (l.set i v).toArray := by
  simp only [Instr.fill, p.eval m, tV o, QaB]
  simp [r]
 simp only [execOp, q, Sem.run_bind, k, eV h, j, Result.andThen_ok, Value.cells, Sem.run_pure, Qcj, QaL, Qch]
 rw [s]; rfl
end
theorem a0H : sP W0 163 [] R (fun v B => ∃ b, v = pQ b ∧ B = pt b (dD (List.replicate 16 0) 0) :: R) := by
 refine am func163 ntmps163 ?_
 refine aa (fR a8m zeroValue304 (aP NA (aP aW fQ)) (kh rfl NA rfl rfl (Qab rfl) rfl fP)) ?_
 refine bz fun a => ?_
 refine ac ?_
 exact ⟨_, ⟨_, rfl, rfl⟩, ent_refl⟩
theorem K9 b rl pc (c : rl.length = 16) : sQ W0 81 [pQ b] (pt b (dD rl pc) :: R) (.agg (rl.map wV).toArray) (pt b (dD rl pc) :: R) := by
 refine am func81 ntmps81 ?_
 refine ez (dx O0) fun d => ?_
 refine aw ?_
 refine aA rfl (fun a => ?_) fun a => ?_
 cases a
 refine aw ?_
 refine ae rfl (iD Cv rj rfl (cV (b := b) (a0C c) (by grind)) (by grind)) ?_
 refine ar (fN rj rfl rfl (by grind) (AT rl) rfl) ?_
 exact aV (.cons (bi Cv rj rfl (by grind)) .nil) ao
theorem qJ b rl pc (c : rl.length = 16) : sQ W0 82 [pQ b] (pt b (dD rl pc) :: R) (wV pc) (pt b (dD rl pc) :: R) := by
 refine ju 12 func82 ntmps82 ?_
 refine aA rfl (fun a => ?_) fun a => ?_
 cases a
 refine aw ?_
 refine jP 4 (aE (aI (a0D c))) ?_
 exact ac ao
theorem y5 b rl pc q (c : rl.length = 16) : sQ W0 132 [pQ b, wV q] (pt b (dD rl pc) :: R) (iQ 0) (pt b (dD rl q) :: R) := by
 refine am func132 ntmps132 ?_
 refine cy rfl rfl rfl (fun a => ?_) fun a => ?_
 cases a
 refine aw ?_
 refine jP 5 (aE (aI (K0 c))) ?_
 refine jf ?_
 refine iW 8 (dq (by grind) (a0E c)) ?_
 exact ac ao
def gO (i : Int) : Bool := decide (0 ≤ i ∧ i < 16)
theorem AU b rl pc (a : rl.length = 16) i : sQ W0 195 [pQ b, iQ i] (pt b (dD rl pc) :: R) (iQ (if gO i then 0 else 1)) (pt b (dD rl pc) :: R) := by
 refine am func195 ntmps195 ?_
 refine jP 4 (aE (aI (K0 a))) ?_
 refine jf ?_
 refine aA rfl (fun c => ?_) fun c => ?_
 refine jd ?_
 refine aH (zP rfl (aO (aX (ae rfl (bA rfl) (aL (aH (dE (mB (iU (ac ?_))))))))))
 rw [Qaa (by grind [gO])]
 exact ao
 refine aw ?_
 refine ai (fun d => ?_) fun d => ?_
 refine ac ?_
 rw [Qaa (by grind [gO])]
 exact ao
 refine ac ?_
 rw [Qad (by grind [gO])]
 exact ao
theorem a0I b rl (a i x : Nat) (e : rl.length = 16) (c : i < 16) (f : i ≠ 0) : sQ W0 196 [pQ b, iQ i, wV x] (pt b (dD rl a) :: R) (.tuple #[]) (pt b (dD (rl.set i x) a) :: R) := by
 refine am func196 ntmps196 ?_
 refine aA rfl (fun d => ?_) fun d => ?_
 refine au 6 ?_
 refine aa (ew c) ?_
 refine ar (dq (by grind) (a0F e c)) ?_
 refine bX (.inr rfl) .nil ?_
 exact ao
 simp at d; omega
theorem ED W0 R b rl (c i x : Nat) (d : rl.length = 16) (g : i < 16) (h : i ≠ 0) : sQ W0 131 [pQ b, iQ i, wV x] (pt b (dD rl c) :: R) (iQ 0) (pt b (dD (rl.set i x) c) :: R) := by
 have a : gO i = true := by grind [gO]
 refine ju 12 Og ntmps131 ?_
 refine aA rfl (fun e => ?_) fun e => ?_
 cases e
 refine aw ?_
 refine dV 10 (ap GQ (AU b rl c d i)) ?_
 refine ai (fun f => ?_) fun f => ?_
 refine ah (ap call196 (a0I b rl c i x d g h)) ?_
 refine ac ?_
 rw [a]
 exact ao
 exact absurd (by rw [a]; rfl) f
abbrev Ka (id : Nat) : Obj := ag ([wV 0, wV 0, wV 0, wV 0, wV 0, wV 4, wV 0] ++ [.int .i64 id, .bool true]) 306
theorem a0J : sQ W0 244 [] R (.agg #[wV 0, wV 0, wV 0, wV 0, wV 0, wV 4, wV 0]) R := by
 refine am func244 ntmps244 ?_
 refine bj fun a => ?_
 refine aa (a0G iC aW GA rfl rfl (by decide)) ?_
 refine ar aF ?_
 exact aV (.cons (bi GR tG rfl rfl) .nil) ao
theorem a0K (i : Nat) (d : i < 4) : sP W0 161 [iQ i] R (fun v B => ∃ b, v = .tuple #[pQ b, iQ 0] ∧ B = pt b (Ka i) :: R) := by
 refine am func161 ntmps161 ?_
 refine cy rfl rfl rfl (fun a => ?_) fun a => ?_
 omega
 refine aw ?_
 refine aA rfl (fun c => ?_) fun c => ?_
 omega
 refine aw ?_
 refine ah (aC call244 (a0J)) ?_
 refine aa (fR a8n zeroValue306 (aP tG (aP aR (aP iT fQ))) (kh rfl tG rfl rfl (Qab rfl) SetRL.eq (cA rfl aR rfl rfl (Qab rfl) SetL.eq (cA rfl iT rfl rfl (Qab rfl) SetL.eq fP)))) ?_
 refine bz fun e => ?_
 refine az ?_
 exact ⟨_, ⟨_, rfl, rfl⟩, ent_refl⟩
abbrev uC : Obj := ag ([.bool false, .bool false, .int .i64 0, .int .i64 0, .bool false, .bool false, .int .i64 0, .int .i64 0, .bool false, .bool false, .int .i64 0, .int .i64 0, .bool false, .bool false, .int .i64 0, .int .i64 0, .bool false, .bool false, .int .i64 0, .int .i64 0, .bool false, .bool false, .int .i64 0, .int .i64 0, .bool false, .bool false, .int .i64 0, .int .i64 0, .bool false, .bool false, .int .i64 0, .int .i64 0, .slice none 0 0, .int .i64 0, .bool false].set 34 (.bool true)) 177
theorem a0L : sP W0 164 [] R (fun v B => ∃ b, v = pQ b ∧ B = pt b uC :: R) := by
 refine am func164 ntmps164 ?_
 refine bz fun a => ?_
 refine ac ?_
 exact ⟨_, ⟨_, rfl, rfl⟩, ent_refl⟩
abbrev uD : Obj := ag [eg, .bool false, .bool false, .bool false, .bool false, .int .i64 0, .bool true] 183
theorem a0M : sP W0 165 [] R (fun v B => ∃ b, v = pQ b ∧ B = pt b uD :: R) := by
 refine am func165 ntmps165 ?_
 refine bz fun a => ?_
 refine ac ?_
 exact ⟨_, ⟨_, rfl, rfl⟩, ent_refl⟩
abbrev sY : Obj := ag [eg, .bool true] 325
theorem a0N : sP W0 107 [] R (fun v B => ∃ b, v = pQ b ∧ B = pt b sY :: R) := by
 refine am func107 ntmps107 ?_
 refine bz fun a => ?_
 refine ac ?_
 exact ⟨_, ⟨_, rfl, rfl⟩, ent_refl⟩
structure Evt where
  k : Int
  clock : Int
  code : Nat
  val : Nat
  pc : Nat
  rl : List Nat
@[reducible] def ml (e : Evt) : List Value := [.int .i64 e.k, .int .i64 e.clock, wV e.code, wV e.val, wV e.pc] ++ (List.range 16).map fun i => wV (e.rl.getD i 0)
theorem a0O e : (ml e).length = 21 := by simp [ml]
theorem Kb {e} (h : e.rl.length = 16) : ml e = [iQ e.k, iQ e.clock, wV e.code, wV e.val, wV e.pc] ++ e.rl.map wV := by
 unfold ml; congr 1
 apply QaP
 simp [h]
 grind
def fJ (b : Nat) (es : List Evt) : HP := chk (fun C => ∃ a c, C = [pt b (ag [.slice a es.length c, .bool true] 163), osl 300 21 (.slice a es.length c) (es.flatMap ml)])
section
variable {P : Program} {W0 : World} {N : FSz} {K : Act → World → Prop} {e : b0} {A B R R1 R2 : List HP} {b n : Nat} {es : List Evt} {f : FuncId} {args : List Value} {Post : Value → List HP → Prop}
theorem AV [f : Tk fJ b A es R] (h : ∀ a c, av W0 N K e (pt b (ag [.slice a es.length c, .bool true] 163) :: osl 300 21 (.slice a es.length c) (es.flatMap ml) :: R)) : av W0 N K e A :=
  fT (r := fJ) (b := b) (nv fun C d => by obtain ⟨a, c, rfl⟩ := d; exact h a c)
theorem y6 {a c xs} [d : Tk pt b A (ag [.slice a n c, .bool true] 163) R1] [e : Tk (osl 300 21) (.slice a n c) R1 xs R2] (f : n = es.length) (g : xs = es.flatMap ml) [k : Ent R2 B] : Ent A (fJ b es :: B) := by
 subst f; subst g
 exact (Ent.ofPerm (d.perm.trans (e.perm.cons _))).trans ((Ent.cons (Ent.cons k)).trans (fH (R := B) (C := [_, _]) ⟨a, c, rfl⟩))
end
theorem a0P : sP W0 108 [] R (fun v B => ∃ b, v = pQ b ∧ B = fJ b [] :: R) := by
 refine am func108 ntmps108 ?_
 refine bz fun a => ?_
 refine ac ?_
 exact ⟨_, ⟨_, rfl, rfl⟩, (Ent.cons (eX (E := 300) (sz := 21) (A := R) (B := R))).trans (fH (R := R) (C := [_, _]) ⟨none, 0, rfl⟩)⟩
theorem EE b es : sQ W0 74 [pQ b] (fJ b es :: R) (.bool false) (fJ b es :: R) := by
 refine am func74 ntmps74 ?_
 refine AV (b := b) fun a c => ?_
 refine aw ?_
 refine cy rfl rfl rfl (fun d => ?_) fun d => ?_
 cases d
 refine aw ?_
 refine ac ?_
 exact ⟨_, ⟨rfl, rfl⟩, y6 rfl rfl⟩
theorem Kc b es : sQ W0 18 [pQ b] (fJ b es :: R) (iQ es.length) (fJ b es :: R) := by
 refine am func18 ntmps18 ?_
 refine ah (ap Oh (EE b es)) ?_
 refine AV (b := b) fun a c => ?_
 refine aw ?_
 refine ac ?_
 exact ⟨_, ⟨rfl, rfl⟩, y6 rfl rfl⟩
theorem a0Q W0 R b es x (m : es.length < 4096) : sQ W0 167 [pQ b, .agg (ml x).toArray] (fJ b es :: R) (iQ 0) (fJ b (es ++ [x]) :: R) := by
 have g : es.flatMap ml ++ [ml x].flatten = (es ++ [x]).flatMap ml := by simp
 refine am func167 ntmps167 ?_
 refine ez (kg rfl) fun i => ?_
 refine ae rfl (bA rfl) (aL (aH (aO (mz (aO (aX (ae rfl (aM rfl) (aD rfl (gU Oh rfl (EE b es)) ?_))))))))
 rintro _ n ⟨rfl, e⟩
 obtain rfl := e.symm
 refine ae rfl (bA rfl) (aL (aH ?_))
 refine aA rfl (fun h => ?_) fun h => ?_
 exact absurd h (by decide)
 refine aO ?_
 refine AV (b := b) fun a c => ?_
 refine aX (ae rfl (aM rfl) (ae rfl (kI rfl) ?_))
 refine ae rfl (d5 rfl a8d rfl Gj rfl (by first | exact Qac _ | rfl)) ?_
 refine ae rfl (cu No rfl (aI rfl)) ?_
 refine ae rfl (CY py rfl) (ae rfl (vf rfl rfl) (ae rfl (bA rfl) (aL (aH ?_))))
 refine aA rfl (fun f => ?_) fun f => ?_
 omega
 refine jd (oI (aH (aO ?_)))
 refine bq [i] 11 fun d => ?_
 refine aj 0 4 d ?_
 refine ax 5 d (iD isAgg300 zx rfl (jN (k := 0) rfl) (a0O x)) ?_
 refine fG (is := [4, 6]) (by kernel_rfl) rfl ⟨?_, ?_, trivial⟩
 refine dy (dP (aE (aI rfl))) ?_; clear d
 rintro _ _ ⟨rfl, rfl⟩
 refine ⟨aT, fun d => ?_⟩
 refine kl 6 (by kernel_rfl) rfl rfl (iG py zx zy rfl (fm rfl rfl i5) rfl (by decide) (by decide) (by decide)) rfl ?_; clear d
 rintro _ _ ⟨j, rfl, rfl⟩
 refine ⟨aT, fun d => ?_⟩
 refine cj 7 (et (sz := 21) (by_ := 96) (info := Tryz.t300) py (by kernel_rfl) rfl rfl rfl rfl (by decide) rfl rfl ee rfl rfl (by simp only [maxLen]; omega) (by omega)) ?_; clear d
 rintro _ _ ⟨l, f, rfl, rfl⟩
 refine ⟨aT, fun d => ?_⟩
 refine aj 8 2 d ?_
 refine cp 10 dX fun d => ?_
 refine i6 ?_
 refine aH (aO (aX (ae rfl (bA rfl) (aL (aH (dE (ac ?_)))))))
 exact ⟨_, ⟨rfl, rfl⟩, y6 (es := es ++ [x]) (by simp) g⟩
 skip
 refine nT rfl rfl (iG py zx zy rfl (fm rfl rfl i5) rfl (by decide) (by decide) (by decide)) rfl ?_; clear d
 rintro _ _ ⟨j, rfl, rfl⟩
 refine ⟨aT, fun d => ?_⟩
 refine cg 4 (dP (aE (aI rfl))) fun d => ?_
 refine cj 7 (et (sz := 21) (by_ := 96) (info := Tryz.t300) py (by kernel_rfl) rfl rfl rfl rfl (by decide) rfl rfl ee rfl rfl (by simp only [maxLen]; omega) (by omega)) ?_; clear d
 rintro _ _ ⟨l, f, rfl, rfl⟩
 refine ⟨aT, fun d => ?_⟩
 refine aj 8 2 d ?_
 refine cp 10 dX fun d => ?_
 refine aJ ?_
 refine ac ?_
 exact ⟨_, ⟨rfl, rfl⟩, y6 (es := es ++ [x]) (by simp) g⟩
end
section
structure It where
  kr : Int
  kp : Int
  ep : Int
  ef : Int
  er : Int
  u : Int
deriving DecidableEq
instance : Inhabited It := ⟨⟨0, 0, 0, 0, 0, 0⟩⟩
def It.key (x : It) : Int × Int := (x.kr, x.kp)
def It.ent (x : It) : Int × Int × Int := (x.ep, x.ef, x.er)
def bM (x : It) : List Value := [.int .i64 x.kr, .int .i64 x.kp, .int .i64 x.ep, .int .i64 x.ef, .int .i64 x.er, .int .i64 x.u]
theorem iY x : (bM x).length = 6 := rfl
def us (l : List It) (i : Nat) : Int := (l.getD i default).u
theorem us_eq {l i} h : us l i = l[i].u := by simp [us, List.getD, h]
def swapL (l : List It) (i j : Nat) : List It := (l.set i (l.getD j default)).set j (l.getD i default)
theorem xE l i j : (swapL l i j).length = l.length := by simp [swapL]
theorem rL {l i j} (a : i < l.length) (b : j < l.length) x : (swapL l i j).getD x default = if x = i then l.getD j default else if x = j then l.getD i default else l.getD x default := by
 grind [swapL]
theorem kP {l i j} (a : i < l.length) (b : j < l.length) x : us (swapL l i j) x = if x = i then us l j else if x = j then us l i else us l x := by
 grind [us, rL]
theorem E2 {α : Type} : ∀ (l : List α) (i j : Nat) (a : i < l.length) (b : j < l.length), ((l.set i l[j]).set j l[i]).Perm l := by
 grind [List.set_set_perm]
theorem lO {l i j} (a : i < l.length) (b : j < l.length) : (swapL l i j).Perm l := by
 grind [E2, swapL]
def Heap (l : List It) (n : Nat) : Prop := ∀ c, c < n → 0 < c → us l ((c - 1) / 2) ≤ us l c
def jy (l : List It) (i n : Nat) : Prop := ∀ c, c < n → 0 < c → (c ≠ i → (c - 1) / 2 ≠ i → us l ((c - 1) / 2) ≤ us l c) ∧ ((c - 1) / 2 = i → 0 < i → us l ((i - 1) / 2) ≤ us l c)
def Up (l : List It) (j n : Nat) : Prop := ∀ c, c < n → 0 < c → (c ≠ j → us l ((c - 1) / 2) ≤ us l c) ∧ ((c - 1) / 2 = j → 0 < j → us l ((j - 1) / 2) ≤ us l c)
theorem E3 {l i j n} (h : jy l i n) (t : n ≤ l.length) (p : j < n) (g : (j - 1) / 2 = i) (q : 0 < j) (r : us l j < us l i)
    (k : ∀ c, c < n → 0 < c → (c - 1) / 2 = i → us l j ≤ us l c) : jy (swapL l i j) j n ∧ us (swapL l i j) ((j - 1) / 2) ≤ us (swapL l i j) j := by
 have s : i < j := by omega
 have d := kP (l := l) (i := i) (j := j) (by omega) (by omega)
 refine ⟨fun c a b => ⟨fun e m => ?_, fun e m => ?_⟩, ?_⟩
 rw [d, d]
 by_cases f : c = i
 subst f
 have := (h j p q).2 g (by omega)
 rw [Qaa (by omega), Qaa (by omega), Qad rfl]; exact this
 by_cases o : (c - 1) / 2 = i
 grind
 rw [Qaa o, Qaa m, Qaa f, Qaa e]; exact (h c a b).1 f o
 rw [g, d, d, Qad rfl, Qaa (by omega), Qaa (by omega)]
 rw [← e]; exact (h c a b).1 (by omega) (by omega)
 grind
theorem xF {l i n} (h : jy l i n) (a : ∀ c, c < n → 0 < c → (c - 1) / 2 = i → us l i ≤ us l c) (g : 0 < i → us l ((i - 1) / 2) ≤ us l i) : Heap l n := fun c b d => by
 by_cases e : (c - 1) / 2 = i
 grind
 by_cases f : c = i
 grind
 exact (h c b d).1 f e
theorem Aq {l i n} (h : jy l i n) (a : ∀ c, c < n → 0 < c → (c - 1) / 2 = i → us l i ≤ us l c) : Up l i n := fun c b d => ⟨fun e => by
 by_cases f : (c - 1) / 2 = i
 grind
 exact (h c b d).1 e f, (h c b d).2⟩
theorem E4 {l j n} (h : Up l j n) (q : n ≤ l.length) (r : j < n) (m : 0 < j) (o : us l j < us l ((j - 1) / 2)) : Up (swapL l ((j - 1) / 2) j) ((j - 1) / 2) n := by
 have d := kP (l := l) (i := (j - 1) / 2) (j := j) (by omega) (by omega)
 intro c e a
 refine ⟨fun f => ?_, fun f p => ?_⟩
 rw [d, d]
 by_cases b : c = j
 omega
 by_cases g : (c - 1) / 2 = (j - 1) / 2
 rw [Qad g, Qaa (by omega), Qaa b]
 have := (h c e a).1 b; rw [g] at this; omega
 by_cases k : (c - 1) / 2 = j
 rw [Qaa g, Qad k, Qaa f, Qaa b]; exact (h c e a).2 k m
 rw [Qaa g, Qaa k, Qaa f, Qaa b]; exact (h c e a).1 b
 rw [d, d, Qaa (by omega), Qaa (by omega)]
 have s := (h ((j - 1) / 2) (by omega) p).1 (by omega)
 by_cases b : c = j
 omega
 rw [Qaa (by omega), Qaa b]
 have := (h c e a).1 b; rw [f] at this; omega
theorem xG {l j n} (h : Up l j n) (d : 0 < j → us l ((j - 1) / 2) ≤ us l j) : Heap l n := fun c a b => by
 by_cases e : c = j
 grind
 exact (h c a b).1 e
theorem heap_min {l n} (h : Heap l n) : ∀ c, c < n → us l 0 ≤ us l c := by
 intro c
 induction c using Nat.strongRecOn with
 | _ c a =>
  intro b
  by_cases d : c = 0
  grind
  have := h c b (by omega)
  have := a ((c - 1) / 2) (by omega) (by omega)
  omega
theorem E5 {l i x n} (h : Heap l n) (j : i < l.length) : jy (l.set i x) i n := fun c d f => by
 have e : ∀ y, y ≠ i → us (l.set i x) y = us l y := fun y k => by
  unfold us; simp only [Qas]; rw [QaW (by omega)]
 refine ⟨fun a b => ?_, fun a b => ?_⟩
 rw [e _ a, e _ b]; exact h c d f
 rw [e _ (by omega), e _ (by omega)]
 have g := h c d f
 have m := h i (by omega) b
 rw [a] at g; omega
theorem xH {l l' n} (h : ∀ i, i < n → l.getD i default = l'.getD i default) {i} (a : i < n) : us l i = us l' i := by unfold us; rw [h i a]
theorem E6 {l l' n} (h : ∀ i, i < n → l.getD i default = l'.getD i default) (k : Heap l n) : Heap l' n := fun c a b => by
 rw [← xH h a, ← xH h (i := (c - 1) / 2) (by omega)]; exact k c a b
theorem E7 {l n m} (h : Heap l n) (k : m ≤ n) : Heap l m := fun c b a => h c (by omega) a
structure Down (its l : List It) (i0 n : Nat) (moved : Bool) : Prop where
  perm : l.Perm its
  tail : ∀ x, n ≤ x → l.getD x default = its.getD x default
  no : moved = false → l = its ∧ ∀ c, c < n → 0 < c → (c - 1) / 2 = i0 → us its i0 ≤ us its c
  yes : moved = true → Heap l n
theorem xI {l its i i0 n} (b : l.Perm its) (j : i0 ≤ i) (d : jy l i n) (e : ∀ x, n ≤ x → l.getD x default = its.getD x default) (f : i = i0 → l = its)
    (g : i0 < i → us l ((i - 1) / 2) ≤ us l i) (a : ∀ c, c < n → 0 < c → (c - 1) / 2 = i → us l i ≤ us l c) : Down its l i0 n (decide (i0 < i)) :=
  ⟨b, e, fun h => by
 have : i = i0 := by grind
 subst this
 obtain rfl := f rfl
 exact ⟨rfl, a⟩, fun h => by
 have : i0 < i := by simpa using h
 exact xF d a fun _ => g this⟩
end
section
open Go.RowKit
def aU (b : Nat) (x : List It × List Value) : HP := chk (fun C => ∃ a c, C = [pt b (ag (.slice a x.1.length c :: x.2) 289), osl 282 6 (.slice a x.1.length c) (x.1.flatMap bM)])
section
variable {P : Program} {W0 : World} {R A : List HP} {b : Nat} {its : List It} {tl : List Value} {f : FuncId} {args : List Value} {Post : Value → List HP → Prop}
theorem w6 (h : ∀ a c, bE P W0 f args (pt b (ag (.slice a its.length c :: tl) 289) :: osl 282 6 (.slice a its.length c) (its.flatMap bM) :: R) Post) : bE P W0 f args (aU b (its, tl) :: R) Post :=
  qf fun C d => by obtain ⟨a, c, rfl⟩ := d; exact h a c
theorem rQ {a c n R1 R2 B} [d : Tk pt b A (ag (.slice a n c :: tl) 289) R1] [e : Tk (osl 282 6) (.slice a n c) R1 (its.flatMap bM) R2] (f : n = its.length) [k : Ent R2 B] : Ent A (aU b (its, tl) :: B) := by
 subst f
 exact (Ent.ofPerm (d.perm.trans (e.perm.cons _))).trans ((Ent.cons (Ent.cons k)).trans (fH (R := B) (C := [_, _]) ⟨a, c, rfl⟩))
theorem EF (j : its ≠ []) (h : ∀ g c d, its.length ≤ c → c ≤ maxLen → (its.flatMap bM ++ d).length = c * 6 → bE P W0 f args (pt b (ag (.slice (some ⟨g, 0, none⟩) its.length c :: tl) 289) :: pt g (ag (its.flatMap bM ++ d) 282) :: R) Post) : bE P W0 f args (aU b (its, tl) :: R) Post :=
  w6 fun a c => lK (List.Perm.swap _ _ _) (xg (fun i e => by
      have := cJ iY its
      rw [e] at this
      exact absurd (QaE (by grind)) j)
    (fun g n k d i e l o m => by
      cases i
      exact lK (List.Perm.swap _ _ _) (h g _ d e l m)))
theorem AW {N K e} [f : Tk aU b A (its, tl) R] (h : ∀ a c, av W0 N K e (pt b (ag (.slice a its.length c :: tl) 289) :: osl 282 6 (.slice a its.length c) (its.flatMap bM) :: R)) : av W0 N K e A :=
  fT (r := aU) (b := b) (nv fun C d => by obtain ⟨a, c, rfl⟩ := d; exact h a c)
theorem EG {N K e} [o : Tk aU b A (its, tl) R] (j : its ≠ []) (h : ∀ g c d, its.length ≤ c → c ≤ maxLen → (its.flatMap bM ++ d).length = c * 6 → av W0 N K e (pt b (ag (.slice (some ⟨g, 0, none⟩) its.length c :: tl) 289) :: pt g (ag (its.flatMap bM ++ d) 282) :: R)) : av W0 N K e A :=
  AW (b := b) fun a c => pX (List.Perm.swap _ _ _) (km (fun i f => by
      have := cJ iY its
      rw [f] at this
      exact absurd (QaE (by grind)) j)
    (fun g n k d i f l p m => by
      cases i
      exact pX (List.Perm.swap _ _ _) (h g _ d f l m)))
theorem Kd [h : Tk aU b A (its, tl) R] : bC (aQ W0 A) b 1 tl := fun i v j w (e : Own W0 w A) => by
 obtain ⟨C, ⟨a, c, rfl⟩, d⟩ := (e.tk (r := aU) (b := b)).chk
 have f : Own W0 w (pt b (ag (.slice a its.length c :: tl) 289) :: (osl 282 6 (.slice a its.length c) (its.flatMap bM) :: R)) := d
 have g : kf (aQ W0 (pt b (ag (.slice a its.length c :: tl) 289) :: (osl 282 6 (.slice a its.length c) (its.flatMap bM) :: R))) b (1 + i) v := aI (by grind)
 exact g w f
theorem sZ {g c n xs sp R1 R2 B} [a : Tk pt b A (ag (.slice (some ⟨g, 0, none⟩) n c :: tl) 289) R1] [l : Tk pt g R1 (ag (xs ++ sp) 282) R2] (d : xs = its.flatMap bM) (f : n = its.length) (h : n ≤ c) (i : c ≤ maxLen) (j : (xs ++ sp).length = c * 6) [k : Ent R2 B] : Ent A (aU b (its, tl) :: B) := by
 subst f
 subst d
 have e : Ent R1 (osl 282 6 (.slice (some ⟨g, 0, none⟩) its.length c) (its.flatMap bM) :: B) := fk h i (cJ iY its) j
 exact (Ent.ofPerm a.perm).trans ((Ent.cons e).trans (fH (R := B) (C := [_, _]) ⟨_, c, rfl⟩))
theorem Ke {N K e g c n xs sp R1 R2} [j : Tk pt b A (ag (.slice (some ⟨g, 0, none⟩) n c :: tl) 289) R1] [l : Tk pt g R1 (ag (xs ++ sp) 282) R2] (a : xs = its.flatMap bM) (d : n = its.length) (f : n ≤ c) (h : c ≤ maxLen) (i : (xs ++ sp).length = c * 6)
    (k : av W0 N K e (aU b (its, tl) :: R2)) : av W0 N K e A := eD (sZ (b := b) a d f h i) k
end
theorem y7 (a : List It) sp i j (b : i < a.length) (c : j < 6) : (a.flatMap bM ++ sp)[i * 6 + j]? = (bM (a.getD i default))[j]? := by
 rw [mG iY a i j sp b c]; simp [List.getD, b]
theorem lQ (a : List It) sp i (b : i < a.length) : ((a.flatMap bM ++ sp).drop (i * 6)).take 6 = bM (a.getD i default) := by
 rw [q9 iY a i sp b]; simp [List.getD, b]
theorem qK (a : List It) sp i x (b : i < a.length) : d7 (a.flatMap bM ++ sp) (i * 6) (bM x) = (a.set i x).flatMap bM ++ sp := vq iY a i x sp b
theorem a0R (a : List It) sp i (b : i < a.length) : ((a.flatMap bM ++ sp).drop (i * 6 + 2)).take 3 = [iQ (a.getD i default).ep, iQ (a.getD i default).ef, iQ (a.getD i default).er] := by
 have := Qai (fun l => (l.drop 2).take 3) (lQ a sp i b)
 simp only [List.drop_take, Qdb, QcR] at this
 exact this
theorem a0S (a : List It) sp i u (b : i < a.length) : (a.flatMap bM ++ sp).set (i * 6 + 5) (iQ u) = (a.set i { a.getD i default with u := u }).flatMap bM ++ sp :=
  qd iY a i 5 _ _ sp b (by decide) (by simp [List.getD, b, bM])
theorem pN (a : List It) sp i (b : i < a.length) : i * 6 + 6 ≤ (a.flatMap bM ++ sp).length := by
 rw [Qaf, cJ iY]; omega
theorem w7 {a : List It} {i} (h : i < a.length) : a ≠ [] := fun e => by rw [e] at h; simp at h
theorem t2 b its tl : sQ W0 421 [pQ b] (aU b (its, tl) :: R) (iQ its.length) (aU b (its, tl) :: R) := by
 refine w6 fun a c => ?_
 refine am func421 ntmps421 ?_
 refine ac ?_
 exact ⟨_, ⟨rfl, rfl⟩, rQ rfl⟩
theorem y8 b its tl (i k : Nat) (d : i < its.length) (e : k < its.length) : sQ W0 507 [pQ b, iQ i, iQ k] (aU b (its, tl) :: R) (.bool (decide (us its i < us its k))) (aU b (its, tl) :: R) := by
 refine EF (w7 d) fun g c f h j l => ?_
 refine am func507 ntmps507 ?_
 refine bq [b, g] 18 fun a => ?_
 refine aj 0 5 a ?_
 refine ax 5 a (bJ d) ?_
 refine aj 6 1 a ?_
 refine ax 7 a (aE (dm (k := 1) rfl ((y7 its f i 5 d (by decide)).trans rfl))) ?_
 refine aj 8 5 a ?_
 refine ax 13 a (bJ e) ?_
 refine aj 14 1 a ?_
 refine ax 15 a (aE (dm (k := 1) rfl ((y7 its f k 5 e (by decide)).trans rfl))) ?_
 refine aj 16 2 a ?_
 refine aJ ?_
 refine ac ?_
 exact ⟨_, ⟨rfl, rfl⟩, sZ rfl rfl h j l⟩
theorem y9 b its tl (i k : Nat) (e : i < its.length) (f : k < its.length) : sQ W0 510 [pQ b, iQ i, iQ k] (aU b (its, tl) :: R) (.tuple #[]) (aU b (swapL its i k, tl) :: R) := by
 refine EF (w7 e) fun g c d l h j => ?_
 refine am func510 ntmps510 ?_
 refine bq [b] 28 fun a => ?_
 refine aj 0 15 a ?_
 refine ax 15 a (bJ f) ?_
 refine aj 17 5 a ?_
 refine ax 22 a (bJ e) ?_
 refine fG (is := [16, 23]) (by kernel_rfl) rfl ⟨?_, ?_, trivial⟩
 refine dy (dP (df (cV (lQ its d k f) rfl))) ?_; clear a
 rintro _ _ ⟨rfl, rfl⟩
 refine ⟨aT, fun a => ?_⟩
 refine cg 23 (dP (df (cV (lQ its d i e) rfl))) fun a => ?_
 refine ax 24 a (bJ e) ?_
 refine cp 25 (iH (pN its d i e) (qK its d i (its.getD k default) e)) fun a => ?_
 refine ax 26 a (bJ f) ?_
 refine cp 27 (iH (pN (its.set i (its.getD k default)) d k (by grind)) (qK (its.set i (its.getD k default)) d k (its.getD i default) (by grind))) fun a => ?_
 refine aJ ?_
 refine bX (.inr rfl) .nil ?_
 exact ⟨_, ⟨rfl, rfl⟩, sZ rfl (by simp [swapL]) (by omega) h (by simpa [swapL, cJ iY] using j)⟩
 skip
 refine dy (dP (df (cV (lQ its d i e) rfl))) ?_; clear a
 rintro _ _ ⟨rfl, rfl⟩
 refine ⟨aT, fun a => ?_⟩
 refine cg 16 (dP (df (cV (lQ its d k f) rfl))) fun a => ?_
 refine ax 24 a (bJ e) ?_
 refine cp 25 (iH (pN its d i e) (qK its d i (its.getD k default) e)) fun a => ?_
 refine ax 26 a (bJ f) ?_
 refine cp 27 (iH (pN (its.set i (its.getD k default)) d k (by grind)) (qK (its.set i (its.getD k default)) d k (its.getD i default) (by grind))) fun a => ?_
 refine aJ ?_
 refine bX (.inr rfl) .nil ?_
 exact ⟨_, ⟨rfl, rfl⟩, sZ rfl (by simp [swapL]) (by omega) h (by simpa [swapL, cJ iY] using j)⟩
theorem AX b its x tl : sQ W0 508 [pQ b] (aU b (its ++ [x], tl) :: R) (.iface 282 (.agg (bM x).toArray)) (aU b (its, tl) :: R) := by
 refine EF (by simp) fun g c a i d j => ?_
 have k : (its ++ [x]).length = its.length + 1 := by simp
 rw [k] at i ⊢
 have l : (its ++ [x]).getD its.length default = x := by grind
 have e := lQ (its ++ [x]) a its.length (by omega)
 rw [l] at e
 have f : (its ++ [x]).flatMap bM ++ a = its.flatMap bM ++ (bM x ++ a) := by simp
 refine am func508 ntmps508 ?_
 refine aa (lg rfl rfl (by rw [co (by simp only [maxLen] at d; omega)]; omega : IntKind.wrap .i64 (((its.length + 1 : Nat) : Int) - 1) = ((its.length : Nat) : Int))) ?_
 refine aa (bJ (by omega)) ?_
 refine aa (df (cV e rfl)) ?_
 refine bj fun m => ?_
 refine ar aF ?_
 refine aa (oL jH fg rfl rfl rfl (by omega)) ?_
 refine fh (m6 Nz rfl rfl rfl (Qab rfl) SetL.eq) ?_
 rintro _ _ rfl
 refine aL (aH (aO (aX (ae rfl (pB nj fg rfl rfl) ?_))))
 refine ae rfl (xe tI (fun _ h => by cases h) rfl) ?_
 refine ae rfl (bA rfl) (aL (aH (dE (bX (.inl rfl) (.cons (aS rfl) .nil) ?_))))
 rw [f]
 exact ⟨_, ⟨rfl, rfl⟩, sZ (sp := bM x ++ a) rfl rfl (by omega) d (by rw [← f]; exact j)⟩
theorem a0T b its x tl (j : its.length < 1000) : sQ W0 509 [pQ b, .iface 282 (.agg (bM x).toArray)] (aU b (its, tl) :: R) (.tuple #[]) (aU b (its ++ [x], tl) :: R) := by
 refine w6 fun a c => ?_
 have e : its.flatMap bM ++ [bM x].flatten = (its ++ [x]).flatMap bM := by simp
 refine lL func509 ntmps509 rfl rfl ?_
 refine bq [] 12 fun d => ?_
 refine aj 0 4 d ?_
 refine aj 5 1 d ?_
 refine ax 6 d (sx tI (fun _ h => by cases h) rfl) ?_
 refine fG (is := [4, 7]) (by kernel_rfl) rfl ⟨?_, ?_, trivial⟩
 refine dy (dP (aE (aI rfl))) ?_; clear d
 rintro _ _ ⟨rfl, rfl⟩
 refine ⟨aT, fun d => ?_⟩
 refine kl 7 (by kernel_rfl) rfl rfl (iG jH fg se rfl (fm rfl rfl i5) rfl (by decide) (by decide) (by decide)) rfl ?_; clear d
 rintro _ _ ⟨f, rfl, rfl⟩
 refine ⟨aT, fun d => ?_⟩
 refine cj 8 (et (sz := 6) (by_ := 48) (info := Tryz.t282) jH (by kernel_rfl) rfl rfl rfl rfl (by decide) rfl rfl ee rfl rfl (by simp only [maxLen]; omega) (by omega)) ?_; clear d
 rintro _ _ ⟨g, i, rfl, rfl⟩
 refine ⟨aT, fun d => ?_⟩
 refine aj 9 2 d ?_
 refine cp 11 dX fun d => ?_
 refine i6 ?_
 refine bX (.inr rfl) .nil ?_
 rw [e]
 exact ⟨_, ⟨rfl, rfl⟩, rQ (its := its ++ [x]) (by simp)⟩
 skip
 refine nT rfl rfl (iG jH fg se rfl (fm rfl rfl i5) rfl (by decide) (by decide) (by decide)) rfl ?_; clear d
 rintro _ _ ⟨f, rfl, rfl⟩
 refine ⟨aT, fun d => ?_⟩
 refine cg 4 (dP (aE (aI rfl))) fun d => ?_
 refine cj 8 (et (sz := 6) (by_ := 48) (info := Tryz.t282) jH (by kernel_rfl) rfl rfl rfl rfl (by decide) rfl rfl ee rfl rfl (by simp only [maxLen]; omega) (by omega)) ?_; clear d
 rintro _ _ ⟨g, i, rfl, rfl⟩
 refine ⟨aT, fun d => ?_⟩
 refine aj 9 2 d ?_
 refine cp 11 dX fun d => ?_
 refine aJ ?_
 refine bX (.inr rfl) .nil ?_
 rw [e]
 exact ⟨_, ⟨rfl, rfl⟩, rQ (its := its ++ [x]) (by simp)⟩
section
variable (w : World) (a : Addr)
theorem ya : (method (Tryz.prog.types.size + Made.depth) 431 (.pointer (some a)) "Len").run Tryz.prog w = .ok (421, .pointer (some a)) w := by kernel_rfl
theorem yd : (method (Tryz.prog.types.size + Made.depth) 431 (.pointer (some a)) "Less").run Tryz.prog w = .ok (507, .pointer (some a)) w := by kernel_rfl
theorem yf : (method (Tryz.prog.types.size + Made.depth) 431 (.pointer (some a)) "Swap").run Tryz.prog w = .ok (510, .pointer (some a)) w := by kernel_rfl
theorem a0U : (method (Tryz.prog.types.size + Made.depth) 431 (.pointer (some a)) "Push").run Tryz.prog w = .ok (509, .pointer (some a)) w := by kernel_rfl
theorem AY : (method (Tryz.prog.types.size + Made.depth) 431 (.pointer (some a)) "Pop").run Tryz.prog w = .ok (508, .pointer (some a)) w := by kernel_rfl
end
def nL (b : Nat) : Value := .iface 431 (.pointer (some ⟨b, 0, none⟩))
theorem Ec {j : Nat} (h : j < 1000) : IntKind.wrap .i64 (Int.tdiv (j - 1) 2) = ((j - 1) / 2 : Nat) := by
 grind [Int.tdiv_eq_ediv_of_nonneg, co]
theorem xJ {l a : List It} {i j n} (c : i < n) (d : j < n) (e : n ≤ l.length) (h : ∀ x, n ≤ x → l.getD x default = a.getD x default) : ∀ x, n ≤ x → (swapL l i j).getD x default = a.getD x default := fun x b => by
 rw [rL (by omega) (by omega), Qaa (by omega), Qaa (by omega)]; exact h x b
theorem vS W0 R b its tl j n (k : n ≤ its.length) (m : n < 1000) (g : j < n) (c : Up its j n) : sP W0 202 [nL b, iQ j] (aU b (its, tl) :: R) (fun v B => v = .tuple #[] ∧ ∃ a, B = aU b (a, tl) :: R ∧ a.Perm its ∧ Heap a n ∧ ∀ x, n ≤ x → a.getD x default = its.getD x default) := by
 refine am func202 ntmps202 ?_
 refine d4 (fun X : List It × Nat => X.1.Perm its ∧ X.2 < n ∧ Up X.1 X.2 n ∧ ∀ x, n ≤ x → X.1.getD x default = its.getD x default) (fun X => [(0, nL b), (1, iQ X.2)]) (fun X => aU b (X.1, tl) :: R) (fun X => X.2) (its, j) ?_ ?_
 grind
 intro ⟨l, j⟩ ⟨d, g, c, h⟩
 have e := d.length_eq
 simp only at g c h d e ⊢
 refine aw ?_
 refine aa gF ?_
 refine aa (nr rfl rfl (by decide) (Ec (by omega))) ?_
 refine cz (fun f => ?_) fun f => ?_
 refine bX (.inr rfl) .nil ?_
 exact ⟨_, ⟨rfl, l, rfl, d, xG c (by omega), h⟩, IO⟩
 refine ah (fz rfl ((fun w => yd w _)) Cw rfl (y8 b l tl j ((j - 1) / 2) (by omega) (by omega))) ?_
 refine aA rfl (fun i => ?_) fun i => ?_
 refine au 5 ?_
 refine bX (.inr rfl) .nil ?_
 exact ⟨_, ⟨rfl, l, rfl, d, xG c (by omega), h⟩, IO⟩
 replace i : us l j < us l ((j - 1) / 2) := by omega
 refine aw ?_
 refine ah (fz rfl ((fun w => yf w _)) Cx rfl (y9 b l tl ((j - 1) / 2) j (by omega) (by omega))) ?_
 exact bR (swapL l ((j - 1) / 2) j, (j - 1) / 2) (⟨(lO (by omega) (by omega)).trans d, by show (j - 1) / 2 < n; omega, E4 c (by omega) g (by omega) i, xJ (by omega) g (by omega) h⟩)
theorem vT W0 R b its tl i0 n (G : n ≤ its.length) (H : n < 1000) (I : i0 ≤ n) (J : jy its i0 n) : sP W0 272 [nL b, iQ i0, iQ n] (aU b (its, tl) :: R) (fun v B => ∃ l m, v = .bool m ∧ B = aU b (l, tl) :: R ∧ Down its l i0 n m) := by
 refine am Oa ntmps272 ?_
 refine d4 (fun X : List It × Nat => X.1.Perm its ∧ i0 ≤ X.2 ∧ jy X.1 X.2 n ∧ (∀ x, n ≤ x → X.1.getD x default = its.getD x default) ∧ (X.2 = i0 → X.1 = its) ∧ (i0 < X.2 → us X.1 ((X.2 - 1) / 2) ≤ us X.1 X.2) ∧ X.2 ≤ n) (fun X => [(0, nL b), (1, iQ i0), (2, iQ n), (7, iQ X.2)]) (fun X => aU b (X.1, tl) :: R) (fun X => n - X.2) (its, i0) ?_ ?_
 grind
 intro ⟨l, i⟩ ⟨k, g, s, t, u, y, z⟩
 have o := k.length_eq
 simp only at k g s t u y z o ⊢
 refine aw ?_
 refine aa u9 ?_
 refine aa (dU (2 * i + 1)) ?_
 refine cz (fun p => ?_) fun p => ?_
 refine ac ?_
 refine ⟨_, ⟨l, decide (i0 < i), by simp [aN], rfl, xI k g s t u y ?_⟩, IO⟩
 first | (intro c d e f; exfalso; omega) | (intro c d e f; have := a c d e f; simp at h; omega)
 refine aA rfl (fun D => ?_) fun D => ?_
 omega
 refine au 8 ?_
 refine cF (fun j : Nat => (j - 1) / 2 = i ∧ 0 < j ∧ j < n ∧ ∀ c, c < n → 0 < c → (c - 1) / 2 = i → us l j ≤ us l c) (fun j => [(0, nL b), (1, iQ i0), (2, iQ n), (7, iQ i), (9, iQ j)]) (fun j => aU b (l, tl) :: R) ?_ ?_
 refine au 3 ?_
 refine aa (dU (2 * i + 2)) ?_
 refine bO (fun q => ?_) fun q => ?_
 refine ah (fz rfl ((fun w => yd w _)) Cw rfl (y8 b l tl (2 * i + 2) (2 * i + 1) (by omega) (by omega))) ?_
 refine ai (fun E => ?_) fun E => ?_
 refine bu (2 * i + 2) ?_
 refine ⟨by omega, by omega, by omega, fun c d e f => ?_⟩
 have : c = 2 * i + 1 ∨ c = 2 * i + 2 := by omega
 rcases this with rfl | rfl <;> omega
 refine bu (2 * i + 1) ?_
 refine ⟨by omega, by omega, by omega, fun c d e f => ?_⟩
 have : c = 2 * i + 1 ∨ c = 2 * i + 2 := by omega
 rcases this with rfl | rfl <;> omega
 refine bu (2 * i + 1) ?_
 refine ⟨by omega, by omega, by omega, fun c d e f => ?_⟩
 have : c = 2 * i + 1 ∨ c = 2 * i + 2 := by omega
 rcases this with rfl | rfl <;> omega
 intro j ⟨F, A, r, a⟩
 refine aw ?_
 refine ah (fz rfl ((fun w => yd w _)) Cw rfl (y8 b l tl j i (by omega) (by omega))) ?_
 refine aA rfl (fun h => ?_) fun h => ?_
 refine au 15 ?_
 refine ac ?_
 refine ⟨_, ⟨l, decide (i0 < i), by simp [aN], rfl, xI k g s t u y ?_⟩, IO⟩
 first | (intro c d e f; exfalso; omega) | (intro c d e f; have := a c d e f; simp at h; omega)
 replace h : us l j < us l i := by simpa using h
 refine aw ?_
 refine ah (fz rfl ((fun w => yf w _)) Cx rfl (y9 b l tl i j (by omega) (by omega))) ?_
 refine bR (swapL l i j, j) ?_ (hμ := ?_)
 have C := E3 s (by omega) r F A h a
 exact ⟨(lO (by omega) (by omega)).trans k, by show i0 ≤ j; omega, C.1, xJ (by omega) r (by omega) t, by show j = i0 → _; omega, fun _ => C.2, by show j ≤ n; omega⟩
 show n - j < n - i; omega
theorem Kf b its tl i (e : its.length < 1000) (g : i < its.length) (f : jy its i its.length) : sP W0 420 [nL b, iQ i] (aU b (its, tl) :: R) (fun v B => v = .tuple #[] ∧ ∃ a, B = aU b (a, tl) :: R ∧ a.Perm its ∧ Heap a its.length) := by
 refine am func420 ntmps420 ?_
 refine ah (fz rfl ((fun w => ya w _)) v6 rfl (t2 b its tl)) ?_
 refine aD rfl (ap zt (vT W0 _ b its tl i its.length (Qam _) e (by omega) f)) ?_
 rintro _ _ ⟨l, m, rfl, rfl, d⟩
 refine aw ?_
 refine ai (fun h => ?_) fun h => ?_
 have j : m = false := by grind
 obtain ⟨rfl, c⟩ := d.no j
 refine aD rfl (ap Cr (vS W0 _ b l tl i l.length (Qam _) e g (Aq f c))) ?_
 rintro _ _ ⟨rfl, k, rfl, n, o, _⟩
 refine aw ?_
 refine bX (.inr rfl) .nil ?_
 exact ⟨_, ⟨rfl, k, rfl, n, o⟩, IO⟩
 refine bX (.inr rfl) .nil ?_
 exact ⟨_, ⟨rfl, l, rfl, d.perm, d.yes (by grind)⟩, IO⟩
theorem Ed {its x} (h : Heap its its.length) : Up (its ++ [x]) its.length (its.length + 1) := by
 have e : ∀ c, c < its.length → us (its ++ [x]) c = us its c := fun c a => by
  unfold us; simp only [Qas]; rw [QaA a]
 intro c a b
 refine ⟨fun d => ?_, fun d f => by omega⟩
 rw [e c (by omega), e _ (by omega)]; exact h c (by omega) b
theorem heapPush_spec b its x tl (h : its.length < 900) (e : Heap its its.length) : sP W0 138 [nL b, .iface 282 (.agg (bM x).toArray)] (aU b (its, tl) :: R) (fun v B => v = .tuple #[] ∧ ∃ a, B = aU b (a, tl) :: R ∧ a.Perm (its ++ [x]) ∧ Heap a a.length) := by
 have f : (its ++ [x]).length = its.length + 1 := by simp
 refine am func138 ntmps138 ?_
 refine ah (fz rfl ((fun w => a0U w _)) call509 rfl (a0T b its x tl (by omega))) ?_
 refine ah (fz rfl ((fun w => ya w _)) v6 rfl (t2 b (its ++ [x]) tl)) ?_
 refine aa (nU its.length) ?_
 refine aD rfl (ap Cr (vS W0 _ b (its ++ [x]) tl its.length (its.length + 1) (by omega) (by omega) (by omega) (Ed e))) ?_
 rintro _ _ ⟨rfl, g, rfl, d, c, _⟩
 refine aw ?_
 refine bX (.inr rfl) .nil ?_
 exact ⟨_, ⟨rfl, g, rfl, d, by rw [d.length_eq, f]; exact c⟩, IO⟩
theorem xO {l : List It} {n} (h : l.length = n + 1) : ∃ b x, l = b ++ [x] ∧ b.length = n ∧ x = l.getD n default := by
 have a : l ≠ [] := fun e => by rw [e] at h; simp at h
 refine ⟨l.dropLast, l.getLast a, (List.dropLast_concat_getLast a).symm, by simp [h], ?_⟩
 rw [List.getLast_eq_getElem]
 simp [List.getD, h]
theorem xP {l x n} (h : Heap (l ++ [x]) n) (a : n ≤ l.length) : Heap l n :=
  E6 (fun i b => by simp only [Qas]; rw [QaA (by omega)]) h
theorem heapPop_spec b its tl (F : its.length < 900) (i : its ≠ []) (p : Heap its its.length) : sP W0 192 [nL b] (aU b (its, tl) :: R) (fun v B => ∃ x a, v = .iface 282 (.agg (bM x).toArray) ∧ B = aU b (a, tl) :: R ∧ (a ++ [x]).Perm its ∧ Heap a a.length ∧ ∀ y ∈ its, x.u ≤ y.u) := by
 obtain ⟨n, G⟩ : ∃ n, its.length = n + 1 := ⟨its.length - 1, by have := Qcz.2 i; omega⟩
 have q : jy (swapL its 0 n) 0 n := fun c j i => ⟨fun r s => by
  rw [kP (by omega) (by omega), kP (by omega) (by omega), Qaa s, Qaa r, Qaa (by omega), Qaa (by omega)]
  exact p c (by omega) i, fun _ h => by omega⟩
 have t := xE its 0 n
 refine am func192 ntmps192 ?_
 refine ah (fz rfl ((fun w => ya w _)) v6 rfl (t2 b its tl)) ?_
 refine aa (nU n) ?_
 refine ah (fz rfl ((fun w => yf w _)) Cx rfl (y9 b its tl 0 n (by omega) (by omega))) ?_
 refine aD rfl (ap zt (vT W0 _ b (swapL its 0 n) tl 0 n (by omega) (by omega) (by omega) q)) ?_
 rintro _ _ ⟨l, m, rfl, rfl, d⟩
 have z := d.perm.length_eq
 obtain ⟨g, x, rfl, k, A⟩ := xO (l := l) (n := n) (by omega)
 have o : x = its.getD 0 default := by
  rw [A, d.tail n (Qam _), rL (by omega) (by omega)]; split
  rename_i e; subst e; rfl
  rw [Qad rfl]
 have C : (g ++ [x]).Perm its := d.perm.trans (lO (by omega) (by omega))
 have D : Heap (g ++ [x]) n := by
  cases m with
  | true => exact d.yes rfl
  | false =>
   obtain ⟨e, f⟩ := d.no rfl
   rw [e]; exact xF q f (fun h => absurd h (by omega))
 refine aw ?_
 refine ah (fz rfl ((fun w => AY w _)) GT rfl (AX b g x tl)) ?_
 refine ac ?_
 refine ⟨_, ⟨x, g, rfl, rfl, C, by rw [k]; exact xP D (by omega), fun y E => ?_⟩, IO⟩
 obtain ⟨c, j, rfl⟩ := Qbc.1 E
 have := heap_min p c j
 rw [us_eq j] at this
 rw [o]; exact this
theorem heapRemove_spec b a tl (i : Nat) (M : a.length < 900) (N : i < a.length) (u : Heap a a.length) : sP W0 271 [nL b, iQ i] (aU b (a, tl) :: R) (fun v B => ∃ e, v = .iface 282 (.agg (bM (a.getD i default)).toArray) ∧ B = aU b (e, tl) :: R ∧ (e ++ [a.getD i default]).Perm a ∧ Heap e e.length) := by
 obtain ⟨n, O⟩ : ∃ n, a.length = n + 1 := ⟨a.length - 1, by omega⟩
 have E : i ≠ n → jy (swapL a i n) i n := fun g c P F => ⟨fun y z => by
  rw [kP (by omega) (by omega), kP (by omega) (by omega), Qaa z, Qaa y, Qaa (by omega), Qaa (by omega)]
  exact u c (by omega) F, fun y z => by
  rw [kP (by omega) (by omega), kP (by omega) (by omega), Qaa (by omega), Qaa (by omega), Qaa (by omega), Qaa (by omega)]
  have H := u c (by omega) F
  have Q := u i (by omega) z
  rw [y] at H; omega⟩
 have I := xE a i n
 have q : ∀ l : List It, l.Perm a → Heap l n → l.getD n default = a.getD i default → ∃ d, l = d ++ [a.getD i default] ∧ d.length = n ∧ Heap d d.length := fun l f o G => by
  have := f.length_eq
  obtain ⟨d, x, rfl, k, s⟩ := xO (l := l) (n := n) (by omega)
  rw [G] at s; subst s
  exact ⟨d, rfl, k, by rw [k]; exact xP o (by omega)⟩
 have p : i ≠ n → (swapL a i n).getD n default = a.getD i default := fun h => by
  rw [rL (by omega) (by omega), Qaa (by omega), Qad rfl]
 refine am func271 ntmps271 ?_
 refine ah (fz rfl ((fun w => ya w _)) v6 rfl (t2 b a tl)) ?_
 refine aa (nU n) ?_
 refine ai (fun J => ?_) fun J => ?_
 have g : i ≠ n := by omega
 refine ah (fz rfl ((fun w => yf w _)) Cx rfl (y9 b a tl i n (by omega) (by omega))) ?_
 refine aD rfl (ap zt (vT W0 _ b (swapL a i n) tl i n (by omega) (by omega) (by omega) (E g))) ?_
 rintro _ _ ⟨l, m, rfl, rfl, r⟩
 have K := r.perm.length_eq
 refine aw ?_
 refine ai (fun A => ?_) fun A => ?_
 have C : m = false := by simpa using A
 obtain ⟨rfl, t⟩ := r.no C
 refine aD rfl (ap Cr (vS W0 _ b (swapL a i n) tl i n (by omega) (by omega) (by omega) (Aq (E g) t))) ?_
 rintro _ _ ⟨rfl, l, rfl, f, o, L⟩
 obtain ⟨d, rfl, k, o⟩ := q l (f.trans (lO (by omega) (by omega))) o ((L n (Qam _)).trans (p g))
 replace f := f.trans (lO (by omega) (by omega))
 generalize a.getD i default = x at f ⊢
 refine aw ?_
 refine ah (fz rfl ((fun w => AY w _)) GT rfl (AX b d x tl)) ?_
 refine ac ?_
 exact ⟨_, ⟨d, rfl, rfl, by first | exact f | exact QaN _, o⟩, IO⟩
 have C : m = true := by simpa using A
 obtain ⟨d, rfl, k, o⟩ := q l (r.perm.trans (lO (by omega) (by omega))) (r.yes C) ((r.tail n (Qam _)).trans (p g))
 have f := r.perm.trans (lO (l := a) (i := i) (j := n) (by omega) (by omega))
 generalize a.getD i default = x at f ⊢
 refine ah (fz rfl ((fun w => AY w _)) GT rfl (AX b d x tl)) ?_
 refine ac ?_
 exact ⟨_, ⟨d, rfl, rfl, by first | exact f | exact QaN _, o⟩, IO⟩
 obtain rfl : n = i := by omega
 obtain ⟨d, D, k, o⟩ := q a (QaN _) (E7 u (by omega)) rfl
 have f : (d ++ [a.getD n default]).Perm a := by rw [← D]
 generalize G : a.getD n default = x at D f ⊢
 rw [D]
 refine ah (fz rfl ((fun w => AY w _)) GT rfl (AX b d x tl)) ?_
 refine ac ?_
 exact ⟨_, ⟨d, rfl, rfl, by first | exact f | exact QaN _, o⟩, IO⟩
@[reducible] def gY (k : Int × Int) : List Value := [.int .i64 k.1, .int .i64 k.2]
@[reducible] def mZ (e : Int × Int × Int) : List Value := [.int .i64 e.1, .int .i64 e.2.1, .int .i64 e.2.2]
theorem a0V x bk k : sQ W0 358 [.agg (bM x).toArray, pQ bk] (pt bk (ag (gY k) 51) :: R) (.bool (decide (x.key = k))) (pt bk (ag (gY k) 51) :: R) := by
 refine am func358 ntmps358 ?_
 refine bz fun a => ?_
 refine ae rfl (df (cV (vs := [iQ x.kr, iQ x.kp]) rfl rfl)) ?_
 refine ae rfl (df (cV (vs := [iQ k.1, iQ k.2]) rfl rfl)) ?_
 refine aa (vj Tryz.eqGuardType51 rfl rfl (tU Ce Tryz.stoodInHeld51 (li rfl di rfl rfl (lH jI) (li rfl di rfl rfl (lH jI) tT)))) ?_
 refine ac ?_
 refine aG ?_
 simp [aN, It.key, Prod.ext_iff]; rw [Qag]; simp
def Kg (its : List It) (k : Int × Int) (r : Int) : Prop := (r = -1 ∧ ∀ x ∈ its, x.key ≠ k) ∨ ∃ i : Nat, r = (i : Int) ∧ i < its.length ∧ (its.getD i default).key = k
theorem a0W {a : List It} {k} (h : ∀ i, i < a.length → (a.getD i default).key ≠ k) : ∀ x ∈ a, x.key ≠ k := fun x d => by
 obtain ⟨c, b, rfl⟩ := Qbc.1 d
 have := h c b
 simpa [List.getD, b] using this
theorem a0X its a c bk k (u : its.length < 1000) : sP W0 357 [.slice a its.length c, .func (.func 358) #[] #[pQ bk]] (osl 282 6 (.slice a its.length c) (its.flatMap bM) :: pt bk (ag (gY k) 51) :: R) (fun v B => ∃ r, v = iQ r ∧ B = osl 282 6 (.slice a its.length c) (its.flatMap bM) :: pt bk (ag (gY k) 51) :: R ∧ Kg its k r) := by
 refine xg (fun b d => ?_) fun g n q l b d m o p => ?_
 have s : its.length = 0 := by grind
 obtain rfl : its = [] := QaE s
 cases b
 refine am GU ntmps357 ?_
 refine d4 (fun X : Nat => True) (fun X => [(7, iQ 0), (8, iQ X)]) (fun X => pt bk (ag (gY k) 51) :: R) (fun X => X) 0 ?_ ?_
 trivial
 intro j t
 refine aw ?_
 refine aA rfl (fun e => ?_) fun e => ?_
 omega
 refine aw ?_
 refine ac ?_
 exact ⟨_, ⟨-1, rfl, rfl, .inl ⟨rfl, by simp⟩⟩, eX⟩
 cases b
 refine am GU ntmps357 ?_
 refine d4 (fun X : Nat => X ≤ its.length ∧ ∀ i, i < X → (its.getD i default).key ≠ k) (fun X => [(0, .slice (some ⟨g, 0, none⟩) its.length c), (1, .func (.func 358) #[] #[pQ bk]), (7, iQ (its.length : Nat)), (8, iQ X)]) (fun X => pt g (ag (its.flatMap bM ++ l) 282) :: pt bk (ag (gY k) 51) :: R) (fun X => its.length - X) 0 ?_ ?_
 grind
 intro j ⟨t, f⟩
 refine aw ?_
 refine ai (fun e => ?_) fun e => ?_
 refine aa (bJ (by omega)) ?_
 refine aa (df (cV (lQ its l j (by omega)) rfl)) ?_
 refine ah (u6 rfl call358 rfl (a0V (its.getD j default) bk k)) ?_
 refine aA rfl (fun h => ?_) fun h => ?_
 replace h : (its.getD j default).key = k := by omega
 refine aw ?_
 refine ac ?_
 exact ⟨_, ⟨_, rfl, rfl, .inr ⟨j, rfl, by omega, h⟩⟩, fk d m o p⟩
 refine aw ?_
 refine aa bY ?_
 refine bR (j + 1) ?_
 grind
 refine ac ?_
 exact ⟨_, ⟨-1, rfl, rfl, .inl ⟨rfl, a0W fun i w => f i (by omega)⟩⟩, fk d m o p⟩
theorem w8 b its rm nw : sQ W0 152 [pQ b] (aU b (its, [rm, nw, .bool true]) :: R) (.bool false) (aU b (its, [rm, nw, .bool true]) :: R) := by
 refine w6 fun a c => ?_
 refine am func152 ntmps152 ?_
 refine cy rfl rfl rfl (fun d => ?_) fun d => ?_
 cases d
 refine aw ?_
 refine ac ?_
 exact ⟨_, ⟨by simp [aN], rfl⟩, rQ rfl⟩
theorem Kh b v0 rm (a : Nat) (c : a < 1000000) : sQ W0 419 [pQ b] (pt b (ag [v0, rm, iQ a, .bool true] 289) :: R) (iQ (a + 1 : Nat)) (pt b (ag [v0, rm, iQ (a + 1 : Nat), .bool true] 289) :: R) := by
 refine am func419 ntmps419 ?_
 refine aa (dU (a + 1)) ?_
 refine ar dX ?_
 exact ac ao
theorem Ki b its rm (d : Nat) (e : d < 1000000) : sQ W0 419 [pQ b] (aU b (its, [rm, iQ d, .bool true]) :: R) (iQ (d + 1 : Nat)) (aU b (its, [rm, iQ (d + 1 : Nat), .bool true]) :: R) := by
 refine w6 fun a c => ge (Kh b _ rm d e) ?_
 rintro _ _ ⟨rfl, rfl⟩
 exact ⟨_, ⟨rfl, rfl⟩, rQ rfl⟩
theorem EH b its tl k (d : its.length < 1000) : sP W0 317 [pQ b, .agg (gY k).toArray] (aU b (its, tl) :: R) (fun v B => ∃ r, v = iQ r ∧ B = aU b (its, tl) :: R ∧ Kg its k r) := by
 refine w6 fun a c => ?_
 refine am func317 ntmps317 ?_
 refine bz fun e => ?_
 refine aD rfl (cq call357 (a0X its a c e k d)) ?_
 rintro _ _ ⟨r, rfl, rfl, f⟩
 refine aw ?_
 refine ac ?_
 exact ⟨_, ⟨r, rfl, rfl, f⟩, rQ rfl⟩
theorem a0Y (a : Nat) (h : a ≤ 4) : sP W0 245 [iQ a] R (fun v B => ∃ b, v = .tuple #[pQ b, iQ 0] ∧ B = aU b ([], [iQ a, iQ 0, .bool true]) :: R) := by
 refine am func245 ntmps245 ?_
 refine cy rfl rfl rfl (fun c => ?_) fun c => ?_
 omega
 refine aw ?_
 refine aA rfl (fun d => ?_) fun d => ?_
 omega
 refine aw ?_
 refine bz fun e => ?_
 refine az ?_
 exact ⟨_, ⟨e, rfl, rfl⟩, (Ent.cons (eX (B := R))).trans (fH (R := R) (C := [_, _]) ⟨none, 0, rfl⟩)⟩
abbrev w9 (pv bt bs : Nat) : Obj := ag [.pointer (some ⟨pv, 0, none⟩), .pointer (some ⟨bt, 0, none⟩), .pointer (some ⟨bs, 0, none⟩)] 153
theorem a0Z : sP W0 246 [] R (fun v B => ∃ b, v = pQ b ∧ B = pt b (ag [eg, .bool true] 276) :: R) := by
 refine am func246 ntmps246 ?_
 refine bz fun a => ?_
 refine ac ?_
 exact ⟨_, ⟨_, rfl, rfl⟩, ent_refl⟩
theorem a00 (c h i d a : Nat) (l : a ≤ 4) : sP W0 162 [pQ c, iQ a] (pt c (bW h i d) :: R) (fun v B => ∃ e f g, v = .tuple #[pQ e, iQ 0] ∧ B = pt e (w9 c f g) :: aU f ([], [iQ a, iQ 0, .bool true]) :: pt g (ag [eg, .bool true] 276) :: pt c (bW h i d) :: R) := by
 refine am func162 ntmps162 ?_
 refine ah (ap sg (qt c h i d)) ?_
 refine ai (fun j => ?_) fun j => ?_
 exact absurd j (by simp)
 refine aD rfl (aC call245 (a0Y a l)) ?_
 rintro _ m ⟨f, rfl, b⟩
 subst b
 refine aw ?_
 refine ai (fun k => ?_) fun k => ?_
 exact absurd rfl k
 refine aD rfl (aC call246 (a0Z)) ?_
 rintro _ m ⟨g, rfl, b⟩
 subst b
 refine aw ?_
 refine bz fun e => ?_
 refine az ?_
 exact ⟨_, ⟨e, f, g, rfl, rfl⟩, IO⟩
end
end Go.Proofs.YtbhimdcapbflkaaGreatDoor
