/-
  Part 4 of the proof of GuestAnew: rules, and walks of functions. Conditions: none.
-/
import Derived.Test.YtbhimdcapbflkaaGreatDoorGuestAnewC
namespace Go.Proofs.YtbhimdcapbflkaaGreatDoor
open Go.Proofs.Tryz
set_option linter.unusedSimpArgs false
set_option linter.unusedVariables false
set_option maxRecDepth 20000
set_option linter.defProp false
set_option synthInstance.maxSize 8192
set_option synthInstance.maxHeartbeats 2000000
variable {W0 : World} {R : List HP}
section
open Go.RowKit
abbrev pV (b : Nat) : Value := .pointer (some ⟨b, 0, none⟩)
structure Bd where
  r : Nat
  c : Nat
  m : Nat
  v : Nat
  t : Nat
@[reducible] def uE (x : Bd) (qs : List Nat) : List Value := [pV x.r, pV x.c, pV x.m] ++ (qs.map pV ++ List.replicate (3 - qs.length) (.pointer none)) ++ [pV x.v, pV x.t, .bool false, .int .u32 0, .int .u32 0, .int .u32 0, .int .u32 0]
theorem a01 {x q} : ∀ {c : List Nat}, c.length < 3 → (uE x c).set (3 + c.length * 1) (pV q) = uE x (c ++ [q])
 | [], _ => rfl
 | [a], _ => rfl
 | [a, b], _ => rfl
theorem b0g {x qs} (h : qs.length ≤ 3) : (uE x qs).length = 13 := by
 simp [uE]; omega
abbrev rR (x : Bd) (i bt bs pv : Nat) (T : List HP) : List HP := pt x.r (dD (List.replicate 16 0) 0) :: pt x.c (Ka i) :: pt x.m (w9 pv bt bs) :: aU bt ([], [.int .i64 ((4 : Nat) : Int), .int .i64 0, .bool true]) :: pt bs (ag [eg, .bool true] 276) :: pt x.v uC :: pt x.t uD :: T
theorem a02 {l x R} : Ent (x :: kH 6 (cv l) :: R) (kH 6 (cv (l ++ [x])) :: R) :=
  (Ent.cons (sk (A := l) (R := R))).trans ((Ent.ofPerm (by
    show (x :: (l ++ R)).Perm ((l ++ [x]) ++ R)
    rw [QaJ]
    exact (List.perm_middle).symm)).trans so)
@[reducible] def AZ (x : Bd) (q0 q1 q2 : Nat) : List Value := [pV x.r, pV x.c, pV x.m, pV q0, pV q1, pV q2, pV x.v, pV x.t, .bool false, .int .u32 0, .int .u32 0, .int .u32 0, .int .u32 0]
theorem EI (i g s t d : Nat) (D : i < 4) : sP W0 79 [iQ i, pV g] (pt g (bW s t d) :: R) (fun v B => ∃ x u w j k l, v = .tuple #[.agg (AZ x j k l).toArray, iQ 0] ∧ B = rR x i u w g (kH 6 (cv [pt j (qO true bT), pt k (qO true bT), pt l (qO true bT)]) :: pt g (bW s t d) :: R)) := by
 refine am func79 ntmps79 ?_
 refine bj fun z => ?_
 refine aD rfl (aC call161 (a0K i D)) ?_
 rintro _ y ⟨m, rfl, e⟩
 obtain rfl := e.symm
 refine au 14 ?_
 refine jf ?_
 refine aD rfl (ap call162 (a00 g s t d 4 (by decide))) ?_
 rintro _ y ⟨n, u, w, rfl, e⟩
 obtain rfl := e.symm
 refine au 14 ?_
 refine jf ?_
 refine aD rfl (aC call163 (a0H)) ?_
 rintro _ y ⟨o, rfl, e⟩
 obtain rfl := e.symm
 refine aw ?_
 refine aD rfl (aC call164 (a0L)) ?_
 rintro _ y ⟨p, rfl, e⟩
 obtain rfl := e.symm
 refine aD rfl (aC call165 (a0M)) ?_
 rintro _ y ⟨r, rfl, e⟩
 obtain rfl := e.symm
 refine aw ?_
 refine bj fun C => ?_
 refine ar aF ?_
 refine fM (fun f : List Nat => f.length ≤ 3) (fun f => [(4, pV z), (9, pV C), (35, iQ f.length)]) (fun f => pt C (ag (uE ⟨o, m, n, p, r⟩ f) 146) :: kH 6 (cv (f.map fun q => pt q (qO true bT))) :: pt z (ag [.pointer none, .pointer none, .pointer none, .pointer none, .pointer none, .pointer none, .pointer none, .pointer none, .bool false, .int .u32 0, .int .u32 0, .int .u32 0, .int .u32 0] 146) :: rR ⟨o, m, n, p, r⟩ i u w g (pt g (bW s t d) :: R)) (fun f => 3 - f.length) [] ?_ ?_ ?_ ?_
 grind
 · repeat (first | exact bK | refine bc rfl ?_)
 refine Ent.trans (B := pt C (ag (uE ⟨o, m, n, p, r⟩ []) 146) :: pt z (ag [.pointer none, .pointer none, .pointer none, .pointer none, .pointer none, .pointer none, .pointer none, .pointer none, .bool false, .int .u32 0, .int .u32 0, .int .u32 0, .int .u32 0] 146) :: rR ⟨o, m, n, p, r⟩ i u w g (pt g (bW s t d) :: R)) ?_ ?_
 rw [show uE ⟨o, m, n, p, r⟩ [] = [pV o, pV m, pV n, .pointer none, .pointer none, .pointer none, pV p, pV r, .bool false, .int .u32 0, .int .u32 0, .int .u32 0, .int .u32 0] from rfl]
 exact IO
 exact Ent.cons (so (A := []))
 intro f F
 refine aw ?_
 refine aA rfl (fun E => ?_) fun E => ?_
 refine au 10 ?_
 have h : f.length < 3 := by omega
 refine aw ?_
 refine aD rfl (aC call166 (Zv)) ?_
 rintro _ y ⟨q, rfl, e⟩
 obtain rfl := e.symm
 refine ae rfl (d5 rfl a8b rfl sizeOf144 rfl (by first | exact Qac _ | rfl)) ?_
 refine ae rfl (ew h) ?_
 refine fh (m6 NH rfl rfl rfl (by grind) (a01 h)) ?_
 rintro _ _ rfl
 refine aL (oI (aH (aX ?_)))
 refine ae rfl (db rfl rfl (by first | exact co (by omega) | rfl)) ?_
 refine ae rfl (aM rfl) (aL (aH ?_))
 refine wS (f ++ [q]) ?_ ?_ ?_ ?_
 grind
 grind
 · rw [show ((f ++ [q]).length : Int) = ((f.length : Nat) : Int) + 1 by simp]
   repeat (first | exact bK | refine bc rfl ?_)
 grind [QaH, Ent.cons, a02]
 refine au 6 ?_
 have h : f.length = 3 := by omega
 obtain ⟨j, k, l, rfl⟩ : ∃ j k l, f = [j, k, l] := by
  match f, h with
  | [a, b, c], _ => exact ⟨a, b, c, rfl⟩
 refine aX (ae rfl (pB Nq zd rfl rfl) ?_)
 refine fh (fN zd rfl rfl rfl rfl rfl) ?_
 rintro _ _ rfl
 refine ae rfl (bA rfl) (aL (aH (dE (aV (.cons (bi Nq zd rfl rfl) (.cons (aS rfl) .nil)) ?_))))
 refine ⟨_, ⟨⟨o, m, n, p, r⟩, u, w, j, k, l, rfl, rfl⟩, ?_⟩
 rw [show [j, k, l].map (fun q => pt q (qO true bT)) = [pt j (qO true bT), pt k (qO true bT), pt l (qO true bT)] from rfl]
 exact IO
def lR (r : Int × Int) (i : Int) : Int := if i = r.1 then 3 else if i = r.2 then 1 else 0
theorem a03 r i : sQ W0 185 [.agg (jk r).toArray, iQ i] R (iQ (lR r i)) R := by
 refine am func185 ntmps185 ?_
 refine bz fun c => ?_
 refine ai (fun a => ?_) fun a => ?_
 refine ac ?_
 rw [lR, Qad (by omega)]
 exact ao
 refine ai (fun b => ?_) fun b => ?_
 refine ac ?_
 rw [lR, Qaa (by omega), Qad (by omega)]
 exact ao
 refine ac ?_
 rw [lR, Qaa (by omega), Qaa (by omega)]
 exact ao
def mm (c : Cfg) (k : Nat) : Int × Int := c.nl.getD k (0, 0)
def eC (c : Cfg) (i : Int) : Nat → List Pl → List Pl
 | 0, pg => pg
 | k + 1, pg => if lR (mm c k) i = 0 then eC c i k pg else dO (eC c i k pg) ((8 + k : Nat) : Int) (lP c k, lR (mm c k) i)
theorem yg {c i pg} (h : Pgs pg) : ∀ k, Pgs (eC c i k pg)
 | 0 => h
 | k + 1 => by
  rw [eC]; split
  exact yg h k
  exact vJ (yg h k)
theorem a04 c (h : CfK W0 c) i pm pg (m : Pgs pg) (r : c.nl.length ≤ 4) : sQ W0 105 [.agg (dC c).toArray, iQ i, pV pm] (pt pm (bB pg) :: R) (.tuple #[]) (pt pm (bB (eC c i c.nl.length pg)) :: R) := by
 refine am func105 ntmps105 ?_
 refine bz fun b => ?_
 refine fM (fun k : Nat => k ≤ c.nl.length) (fun k => [(1, iQ i), (2, pV pm), (3, pV b), (10, .slice c.na c.nl.length c.nc), (11, iQ (c.nl.length : Nat)), (12, iQ k)]) (fun k => pt b (ik c) :: pt pm (bB (eC c i k pg)) :: R) (fun k => c.nl.length - k) 0 ?_ ?_ ?_ ?_
 omega
 · repeat (first | exact bK | refine bc rfl ?_)
 rw [show eC c i 0 pg = pg from rfl]
 exact IO
 intro k s
 refine aw ?_
 refine aA rfl (fun p => ?_) fun p => ?_
 refine au 2 ?_
 refine cF (fun _ : Unit => k < c.nl.length) (fun _ => [(1, iQ i), (2, pV pm), (3, pV b), (10, .slice c.na c.nl.length c.nc), (11, iQ (c.nl.length : Nat)), (12, iQ k)]) (fun _ => pt b (ik c) :: pt pm (bB (eC c i (k + 1) pg)) :: R) ?_ ?_
 refine au 2 ?_
 have a : k < c.nl.length := by omega
 obtain ⟨g, o, d, j⟩ := (h.ok.n []).at_ a
 obtain ⟨x, q⟩ : ∃ x, c.nl[k] = x := ⟨_, rfl⟩
 rw [q] at j
 have l : mm c k = x := by grind [mm]
 have e := yg (c := c) (i := i) m k
 refine aw ?_
 refine aa (eB zn zi rfl d rfl rfl a (by first | exact Qac _ | rfl)) ?_
 refine aa (df j.weak) ?_
 refine bj fun t => ?_
 refine ar aF ?_
 refine ah (aC call185 (a03 x i)) ?_
 refine ai (fun f => ?_) fun f => ?_
 refine aa (dU (8 + k)) ?_
 refine ah (aC call186 (a0y c h k)) ?_
 refine ah (ap Oe (Dv pm (eC c i k pg) e (8 + k : Nat) (lP c k, lR x i))) ?_
 refine bu () ?_ (he := ?_)
 exact a
 rw [eC, l, Qaa (by simpa using f)]
 exact IO
 refine bu () ?_ (he := ?_)
 exact a
 rw [eC, l, Qad (by simpa using f)]
 exact IO
 intro _ a
 refine aw ?_
 refine aa bY ?_
 exact bR (k + 1) (by omega)
 refine aw ?_
 refine bX (.inr rfl) .nil ?_
 obtain rfl : k = c.nl.length := by omega
 exact ao
theorem a05 {ws n} (h : n ≤ 8) : aZ (aZ ws 8) n = aZ ws n := by
 grind [aZ]
abbrev iz : List Pl := List.replicate 12 (0, 0)
theorem yh : Pgs iz := ⟨rfl, fun n a h => absurd (by
  have : n = 0 ∨ n = 1 ∨ n = 2 ∨ n = 3 ∨ n = 4 ∨ n = 5 ∨ n = 6 ∨ n = 7 ∨ n = 8 ∨ n = 9 ∨ n = 10 ∨ n = 11 := by omega
  rcases this with rfl | rfl | rfl | rfl | rfl | rfl | rfl | rfl | rfl | rfl | rfl | rfl <;> rfl) h⟩
theorem B4 : pK iz 0 8 := fun i _ a => by
 have : i = 0 ∨ i = 1 ∨ i = 2 ∨ i = 3 ∨ i = 4 ∨ i = 5 ∨ i = 6 ∨ i = 7 := by omega
 rcases this with rfl | rfl | rfl | rfl | rfl | rfl | rfl | rfl <;> decide
@[reducible] def B5 (x : Bd) (q0 q1 q2 : Nat) (c : Cfg) (i : Nat) (wv : Value) (pb pv bx tr : Nat) : List Value :=
  [pV x.r, pV x.c, pV x.m, pV q0, pV q1, pV q2, pV x.v, pV x.t, .bool false, .int .u32 0, .int .u32 0, .int .u32 0, .int .u32 0] ++ dC c ++ [.int .i64 i, wv, pV pb, pV pv, pV bx, pV tr, .int .i64 0]
theorem a06 {S N e o0 o1 o2 o3 o4 o5 o6 o7 x} {a b d i f g h j : Nat} {c wv} (k : wv.oneCell' = true) (l : ev e o0 = some (.agg (AZ x a b d).toArray)) (n : ev e o1 = some (.agg (dC c).toArray)) (o : ev e o2 = some (iQ i)) (p : ev e o3 = some wv) (q : ev e o4 = some (pV f)) (s : ev e o5 = some (pV g)) (u : ev e o6 = some (pV h)) (w : ev e o7 = some (pV j)) :
    bP Tryz.prog S N e (.build 149 #[(0, o0), (1, o1), (2, o2), (3, o3), (4, o4), (5, o5), (6, o6), (7, o7)]) (.agg (B5 x a b d c i wv f g h j).toArray) :=
  fR (l' := B5 x a b d c i wv f g h j) a8c zeroValue149 (aP zd (aP v4 (aP aR (aP C8 (aP Nv (aP Cb (aP sizeOf147 (aP NE (aP aR fQ)))))))))
    (kh (l' := [pV x.r, pV x.c, pV x.m, pV a, pV b, pV d, pV x.v, pV x.t, .bool false, .int .u32 0, .int .u32 0, .int .u32 0, .int .u32 0, iQ 0, .slice none 0 0, .slice none 0 0, .slice none 0 0, .slice none 0 0, .slice none 0 0, iQ 0, iQ 0, iQ 0, .slice none 0 0, .pointer none, .pointer none, .pointer none, .pointer none, iQ 0]) rfl zd l rfl (Qab rfl) rfl
    (kh (l' := [pV x.r, pV x.c, pV x.m, pV a, pV b, pV d, pV x.v, pV x.t, .bool false, .int .u32 0, .int .u32 0, .int .u32 0, .int .u32 0, iQ c.cats, .slice c.ga c.gl.length c.gc, .slice c.ra c.rl.length c.rc, .slice c.pa c.pl.length c.pc, .slice c.na c.nl.length c.nc, .slice c.sa c.sl.length c.sc, iQ c.gate, iQ c.quota, iQ 0, .slice none 0 0, .pointer none, .pointer none, .pointer none, .pointer none, iQ 0]) rfl v4 n rfl (Qab rfl) rfl
    (cA (l' := [pV x.r, pV x.c, pV x.m, pV a, pV b, pV d, pV x.v, pV x.t, .bool false, .int .u32 0, .int .u32 0, .int .u32 0, .int .u32 0, iQ c.cats, .slice c.ga c.gl.length c.gc, .slice c.ra c.rl.length c.rc, .slice c.pa c.pl.length c.pc, .slice c.na c.nl.length c.nc, .slice c.sa c.sl.length c.sc, iQ c.gate, iQ c.quota, iQ i, .slice none 0 0, .pointer none, .pointer none, .pointer none, .pointer none, iQ 0]) rfl aR o rfl (Qab rfl) rfl
    (cA (l' := [pV x.r, pV x.c, pV x.m, pV a, pV b, pV d, pV x.v, pV x.t, .bool false, .int .u32 0, .int .u32 0, .int .u32 0, .int .u32 0, iQ c.cats, .slice c.ga c.gl.length c.gc, .slice c.ra c.rl.length c.rc, .slice c.pa c.pl.length c.pc, .slice c.na c.nl.length c.nc, .slice c.sa c.sl.length c.sc, iQ c.gate, iQ c.quota, iQ i, wv, .pointer none, .pointer none, .pointer none, .pointer none, iQ 0]) rfl C8 p k (Qab rfl) rfl
    (cA (l' := [pV x.r, pV x.c, pV x.m, pV a, pV b, pV d, pV x.v, pV x.t, .bool false, .int .u32 0, .int .u32 0, .int .u32 0, .int .u32 0, iQ c.cats, .slice c.ga c.gl.length c.gc, .slice c.ra c.rl.length c.rc, .slice c.pa c.pl.length c.pc, .slice c.na c.nl.length c.nc, .slice c.sa c.sl.length c.sc, iQ c.gate, iQ c.quota, iQ i, wv, pV f, .pointer none, .pointer none, .pointer none, iQ 0]) rfl Nv q rfl (Qab rfl) rfl
    (cA (l' := [pV x.r, pV x.c, pV x.m, pV a, pV b, pV d, pV x.v, pV x.t, .bool false, .int .u32 0, .int .u32 0, .int .u32 0, .int .u32 0, iQ c.cats, .slice c.ga c.gl.length c.gc, .slice c.ra c.rl.length c.rc, .slice c.pa c.pl.length c.pc, .slice c.na c.nl.length c.nc, .slice c.sa c.sl.length c.sc, iQ c.gate, iQ c.quota, iQ i, wv, pV f, pV g, .pointer none, .pointer none, iQ 0]) rfl Cb s rfl (Qab rfl) rfl
    (cA (l' := [pV x.r, pV x.c, pV x.m, pV a, pV b, pV d, pV x.v, pV x.t, .bool false, .int .u32 0, .int .u32 0, .int .u32 0, .int .u32 0, iQ c.cats, .slice c.ga c.gl.length c.gc, .slice c.ra c.rl.length c.rc, .slice c.pa c.pl.length c.pc, .slice c.na c.nl.length c.nc, .slice c.sa c.sl.length c.sc, iQ c.gate, iQ c.quota, iQ i, wv, pV f, pV g, pV h, .pointer none, iQ 0]) rfl sizeOf147 u rfl (Qab rfl) rfl
    (cA (l' := [pV x.r, pV x.c, pV x.m, pV a, pV b, pV d, pV x.v, pV x.t, .bool false, .int .u32 0, .int .u32 0, .int .u32 0, .int .u32 0, iQ c.cats, .slice c.ga c.gl.length c.gc, .slice c.ra c.rl.length c.rc, .slice c.pa c.pl.length c.pc, .slice c.na c.nl.length c.nc, .slice c.sa c.sl.length c.sc, iQ c.gate, iQ c.quota, iQ i, wv, pV f, pV g, pV h, pV j, iQ 0]) rfl NE w rfl (Qab rfl) rfl
    fP))))))))
def laid (c : Cfg) (i : Nat) (ws : List Nat) (fr : List aB) (po : Po) : Im := ci i (aZ ws (cT c i).2.1.toNat) (cT c i).2.1.toNat ⟨fr, po, iz⟩
theorem a07 c (h : CfK W0 c) (T : rt c = true) i (L : i < c.gl.length) ps pb fr po (Z : cB fr) (hP : PoOk po) (hl : po.length = fr.length) (U : 0 < fr.length) (t : (cT c i).2.1 ≤ ((bN po i).length)) a cap ws (hs : ∀ A, cG (aQ W0 A) a 1 iP ws) (hb : ∀ y ∈ ws, y < 4294967296) (hn : ws.length < 9223372036854775808) : sP W0 40 [.agg (dC c).toArray, iQ i, pV ps, pV pb, .slice a ws.length cap] (cR pb (ps, po) :: aY ps fr :: R) (fun v B => ∃ E x M N F G H q r j I J, v = .tuple #[pV E, iQ 0] ∧ B = pt E (ag (B5 x F G H c i (.slice (some ⟨q, 0, none⟩) (aZ ws 8).length (aZ ws 8).length) pb r I J) 149) :: rR x i M N r (kH 6 (cv [pt F (qO true bT), pt G (qO true bT), pt H (qO true bT)]) :: pt r (bW ps j 0) :: pt I sY :: fJ J [] :: pt q (ag ((aZ ws 8).map wV) 38) :: pt j (bB (eC c i c.nl.length (laid c i ws fr po).pg)) :: cR pb (ps, (laid c i ws fr po).po) :: aY ps (laid c i ws fr po).fr :: R)) := by
 have O : ol c = 0 := Qar T
 have P := jC T
 have x0 := P.g4
 have u := P.gs i L
 obtain ⟨g, o, Q, V⟩ := (h.ok.g []).at_ L
 obtain ⟨x, hx⟩ : ∃ x, c.gl[i] = x := ⟨_, rfl⟩
 have K : cT c i = x := by grind [cT]
 obtain ⟨n, w⟩ : ∃ n : Nat, x.2.1 = (n : Int) := ⟨x.2.1.toNat, by rw [K] at u; omega⟩
 have x1 : (cT c i).2.1.toNat = n := by grind
 have m : laid c i ws fr po = ci i (aZ (aZ ws 8) n) n ⟨fr, po, iz⟩ := by grind [laid, a05]
 rw [m]
 rw [hx] at V
 rw [K, w] at u t
 have p : ImOk ⟨fr, po, iz⟩ := ⟨Z, hP, yh, hl⟩
 have e := ut (who := i) (words := aZ (aZ ws 8) n) (n := n) (by omega) p
 have x2 := w0 ws 8
 have W := e.len
 have z : 0 < (ci i (aZ (aZ ws 8) n) n ⟨fr, po, iz⟩).fr.length := by
  have : ∀ k, (ci i (aZ (aZ ws 8) n) k ⟨fr, po, iz⟩).fr.length = fr.length := fun k => by
   induction k with
   | zero => rfl
   | succ k X =>
    rw [ci, jz]
    split
    rw [(uq (ut (by omega) p).fr).2]; exact X
    exact X
  rw [this]; exact U
 refine am func40 ntmps40 ?_
 refine bz fun b5 => ?_
 refine aD rfl (aC call102 (JA c h.ok)) ?_
 rintro _ s ⟨x3, rfl, d⟩
 obtain rfl := d.symm
 rw [O]
 refine aw ?_
 refine cz (fun l => ?_) fun l => ?_
 exact absurd l (by decide)
 refine cy rfl rfl rfl (fun C => ?_) fun C => ?_
 omega
 refine aw ?_
 refine aA rfl (fun c2 => ?_) fun c2 => ?_
 omega
 refine aw ?_
 refine aD rfl (aC call103 (Xd)) ?_
 rintro _ s ⟨j, rfl, d⟩
 obtain rfl := d.symm
 refine aw ?_
 refine ah (ap wM (uf ps fr)) ?_
 refine cy rfl rfl rfl (fun D => ?_) fun D => ?_
 omega
 refine au 6 ?_
 refine aA rfl (fun Y => ?_) fun Y => ?_
 cases Y
 refine aw ?_
 refine aD rfl (aC call104 (JJ a cap 8 ws (hs _) (by decide) hn)) ?_
 rintro _ s ⟨q, rfl, d⟩
 obtain rfl := d.symm
 refine aw ?_
 refine aa (eB np l9 rfl Q rfl rfl L (by first | exact Qac _ | rfl)) ?_
 refine aa (aE (V.weak 1 _ (by rw [← w]; rfl : (ig x)[1]? = some (iQ (n : Int))))) ?_
 refine dV 9 (cM call76 (JL pb ps j i n ⟨fr, po, iz⟩ p U (some ⟨q, 0, none⟩) (aZ ws 8).length (aZ ws 8) (by omega) (by omega) (by omega) B4 (by show n ≤ (bN po i).length; omega) (by intro A K; exact (rB (b := q) Es (Et _).symm).weak (k := K)) (fun y hy => hb y (QbK hy)) (by omega))) ?_
 refine jf ?_
 refine dV 6 (ap call105 (a04 c h i j _ e.pg P.nn)) ?_
 refine aD rfl (cq call106 (Xl ps j _ _ (yg e.pg _) z)) ?_
 rintro _ s ⟨r, rfl, d⟩
 obtain rfl := d.symm
 refine au 14 ?_
 refine jf ?_
 refine aD rfl (ap Oi (EI i r ps j 0 (by omega))) ?_
 rintro _ s ⟨x_, M, N, F, G, H, rfl, d⟩
 obtain rfl := d.symm
 refine aw ?_
 refine bj fun S => ?_
 refine iW 10 aF ?_
 refine jf ?_
 refine bq [S, b5] 12 fun f => ?_
 refine aj 0 6 f ?_
 refine cj 6 (aC call107 (a0N)) ?_; clear f
 rintro _ s ⟨I, rfl, d⟩
 obtain rfl := d.symm
 refine ⟨aT, fun f => ?_⟩
 refine cj 7 (aC call108 (a0P)) ?_; clear f
 rintro _ s ⟨J, rfl, d⟩
 obtain rfl := d.symm
 refine ⟨aT, fun f => ?_⟩
 refine ax 8 f (a06 rfl rfl rfl rfl rfl rfl rfl rfl rfl) ?_
 refine cj 9 (kg rfl) ?_; clear f
 rintro _ _ ⟨E, rfl, rfl⟩
 refine ⟨aT, fun f => ?_⟩
 refine aj 10 2 f ?_
 refine aJ ?_
 refine az ?_
 refine ⟨_, ⟨E, x_, M, N, F, G, H, q, r, j, I, J, rfl, rfl⟩, IO⟩
section
variable {W0 : World} {N : FSz} {K : Act → World → Prop} {e : b0} {A R : List HP} {b : Nat} {l : List Value} {T : TypeId}
end
theorem a08 (b i : Nat) : sQ W0 270 [pV b] (pt b (ag [.int .u32 0, .int .u32 0, .int .u32 0, .int .u32 0, .int .u32 0, .int .u32 0, .int .u32 0, iQ i] 353) :: R) (.tuple #[]) (pt b (ag [.int .u32 0, .int .u32 0, .int .u32 0, .int .u32 0, .int .u32 0, .int .u32 4, .int .u32 0, iQ i] 353) :: R) := by
 refine am func270 ntmps270 ?_
 refine aa (xk iC aW GA rfl) ?_
 refine ar (iH (Qab rfl) SetRL.eq) ?_
 refine aa (ew (by decide)) ?_
 refine ar dX ?_
 refine bX (.inr rfl) .nil ?_
 exact ao
theorem a09 (i : Nat) (d : i < 4) : sP W0 188 [iQ i] R (fun v B => ∃ b, v = .tuple #[pV b, iQ 0] ∧ B = pt b (ag [.int .u32 0, .int .u32 0, .int .u32 0, .int .u32 0, .int .u32 0, .int .u32 4, .int .u32 0, iQ i] 353) :: R) := by
 refine am func188 ntmps188 ?_
 refine cy rfl rfl rfl (fun a => ?_) fun a => ?_
 omega
 refine aw ?_
 refine aA rfl (fun c => ?_) fun c => ?_
 omega
 refine aw ?_
 refine bz fun b => ?_
 refine ah (ap call270 (a08 b i)) ?_
 refine az ?_
 exact ⟨_, ⟨_, rfl, rfl⟩, IO⟩
@[reducible] def Kj (c : Cfg) (i : Nat) (wv : Value) (pb bb : Nat) : List Value := [.int .i64 c.cats, .slice c.ga c.gl.length c.gc, .slice c.ra c.rl.length c.rc, .slice c.pa c.pl.length c.pc, .slice c.na c.nl.length c.nc, .slice c.sa c.sl.length c.sc, .int .i64 c.gate, .int .i64 c.quota, .int .i64 i, wv, pV pb, .pointer none, .pointer none, .pointer none, .int .u32 0, .int .u32 0, .int .u32 0, .int .i64 0, .bool false, .int .i64 0, .int .i64 0, .int .i64 0, .int .u32 0, .int .u32 0, .int .u32 0, .int .i64 0, .bool false, .int .i64 0, .int .i64 0, .int .i64 0, .int .u32 0, .int .u32 0, .int .u32 0, .int .i64 0, .bool false, .int .i64 0, .int .i64 0, .int .i64 0, .pointer none, .pointer none, pV bb, .slice none 0 0, .int .i64 0, .bool false, .int .u32 0, .int .u32 0, .int .u32 0, .int .u32 0]
theorem a1a {S N e o0 o1 o2 o3 o4} {i a b : Nat} {c wv} (d : wv.oneCell' = true) (f : ev e o0 = some (.agg (dC c).toArray)) (g : ev e o1 = some (iQ i)) (h : ev e o2 = some wv) (j : ev e o3 = some (pV a)) (k : ev e o4 = some (pV b)) :
    bP Tryz.prog S N e (.build 129 #[(0, o0), (1, o1), (2, o2), (3, o3), (10, o4)]) (.agg (Kj c i wv a b).toArray) :=
  fR (l' := Kj c i wv a b) s9 zeroValue129 (aP v4 (aP aR (aP C8 (aP Nw (aP sizeOf117 (aP sizeOf118 (aP sizeOf119 (aP sizeOf122 (aP Gi (aP Nx (aP sizeOf125 (aP Gj (aP aR (aP iT (aP Gk fQ)))))))))))))))
    (kh (l' := [iQ c.cats, .slice c.ga c.gl.length c.gc, .slice c.ra c.rl.length c.rc, .slice c.pa c.pl.length c.pc, .slice c.na c.nl.length c.nc, .slice c.sa c.sl.length c.sc, iQ c.gate, iQ c.quota, iQ 0, .slice none 0 0, .pointer none, .pointer none, .pointer none, .pointer none, .int .u32 0, .int .u32 0, .int .u32 0, iQ 0, .bool false, iQ 0, iQ 0, iQ 0, .int .u32 0, .int .u32 0, .int .u32 0, iQ 0, .bool false, iQ 0, iQ 0, iQ 0, .int .u32 0, .int .u32 0, .int .u32 0, iQ 0, .bool false, iQ 0, iQ 0, iQ 0, .pointer none, .pointer none, .pointer none, .slice none 0 0, iQ 0, .bool false, .int .u32 0, .int .u32 0, .int .u32 0, .int .u32 0]) rfl v4 f rfl (Qab rfl) rfl
    (cA (l' := [iQ c.cats, .slice c.ga c.gl.length c.gc, .slice c.ra c.rl.length c.rc, .slice c.pa c.pl.length c.pc, .slice c.na c.nl.length c.nc, .slice c.sa c.sl.length c.sc, iQ c.gate, iQ c.quota, iQ i, .slice none 0 0, .pointer none, .pointer none, .pointer none, .pointer none, .int .u32 0, .int .u32 0, .int .u32 0, iQ 0, .bool false, iQ 0, iQ 0, iQ 0, .int .u32 0, .int .u32 0, .int .u32 0, iQ 0, .bool false, iQ 0, iQ 0, iQ 0, .int .u32 0, .int .u32 0, .int .u32 0, iQ 0, .bool false, iQ 0, iQ 0, iQ 0, .pointer none, .pointer none, .pointer none, .slice none 0 0, iQ 0, .bool false, .int .u32 0, .int .u32 0, .int .u32 0, .int .u32 0]) rfl aR g rfl (Qab rfl) rfl
    (cA (l' := [iQ c.cats, .slice c.ga c.gl.length c.gc, .slice c.ra c.rl.length c.rc, .slice c.pa c.pl.length c.pc, .slice c.na c.nl.length c.nc, .slice c.sa c.sl.length c.sc, iQ c.gate, iQ c.quota, iQ i, wv, .pointer none, .pointer none, .pointer none, .pointer none, .int .u32 0, .int .u32 0, .int .u32 0, iQ 0, .bool false, iQ 0, iQ 0, iQ 0, .int .u32 0, .int .u32 0, .int .u32 0, iQ 0, .bool false, iQ 0, iQ 0, iQ 0, .int .u32 0, .int .u32 0, .int .u32 0, iQ 0, .bool false, iQ 0, iQ 0, iQ 0, .pointer none, .pointer none, .pointer none, .slice none 0 0, iQ 0, .bool false, .int .u32 0, .int .u32 0, .int .u32 0, .int .u32 0]) rfl C8 h d (Qab rfl) rfl
    (cA (l' := [iQ c.cats, .slice c.ga c.gl.length c.gc, .slice c.ra c.rl.length c.rc, .slice c.pa c.pl.length c.pc, .slice c.na c.nl.length c.nc, .slice c.sa c.sl.length c.sc, iQ c.gate, iQ c.quota, iQ i, wv, pV a, .pointer none, .pointer none, .pointer none, .int .u32 0, .int .u32 0, .int .u32 0, iQ 0, .bool false, iQ 0, iQ 0, iQ 0, .int .u32 0, .int .u32 0, .int .u32 0, iQ 0, .bool false, iQ 0, iQ 0, iQ 0, .int .u32 0, .int .u32 0, .int .u32 0, iQ 0, .bool false, iQ 0, iQ 0, iQ 0, .pointer none, .pointer none, .pointer none, .slice none 0 0, iQ 0, .bool false, .int .u32 0, .int .u32 0, .int .u32 0, .int .u32 0]) rfl Nw j rfl (Qab rfl) rfl
    (cA (l' := [iQ c.cats, .slice c.ga c.gl.length c.gc, .slice c.ra c.rl.length c.rc, .slice c.pa c.pl.length c.pc, .slice c.na c.nl.length c.nc, .slice c.sa c.sl.length c.sc, iQ c.gate, iQ c.quota, iQ i, wv, pV a, .pointer none, .pointer none, .pointer none, .int .u32 0, .int .u32 0, .int .u32 0, iQ 0, .bool false, iQ 0, iQ 0, iQ 0, .int .u32 0, .int .u32 0, .int .u32 0, iQ 0, .bool false, iQ 0, iQ 0, iQ 0, .int .u32 0, .int .u32 0, .int .u32 0, iQ 0, .bool false, iQ 0, iQ 0, iQ 0, .pointer none, .pointer none, pV b, .slice none 0 0, iQ 0, .bool false, .int .u32 0, .int .u32 0, .int .u32 0, .int .u32 0]) rfl sizeOf125 k rfl (Qab rfl) rfl
    fP)))))
theorem a1b {R qs c a fr vs} (b : vs.length = fr.length) : Ent (pt qs (ag [.slice a fr.length c] 196) :: osl 80 1 (.slice a fr.length c) vs :: ((vs.zip fr).map gG ++ R)) (cN qs fr :: R) := ui (vs := vs) b rfl
theorem EJ {P S N e x v} {l : List Value} {T fs nm} {i b c : Nat} {em tg pk bo} (f : ev e x = some (.agg l.toArray)) (g : P.underlying T = some (.struct fs)) (m : fs.toList[i]? = some ⟨nm, b, c, em, tg, pk, bo⟩)
    (h : ∀ w, (isAgg b).run P w = .ok false w) (j : l[c]? = some v) : bP P S N e (.field T x i) v := fun a w _ _ _ _ _ k _ => by
 have d : fs[i]? = some ⟨nm, b, c, em, tg, pk, bo⟩ := by grind
 simp only [execOp, Instr.field, k.eval f, Sem.run_bind, eV g, d, Result.andThen_ok, asAgg, Sem.run_pure]
 rw [vh h j]; rfl
section
variable {W0 : World} {N : FSz} {K : Act → World → Prop} {e : b0} {A B R R1 R2 R3 : List HP} {g n c : Nat} {a : Option Addr} {v : Value} {ls : List (List ByteArray)}
end
section
variable {W0 : World} {N : FSz} {K : Act → World → Prop} {e : b0} {A B R R1 R2 R3 R4 R5 R6 : List HP} {p n : Nat} {ps : List Prt}
end
theorem Kk {n f} : (List.replicate n cm).set f cm = List.replicate n cm := by
 simp_all
theorem EK {c f i} (a : rt c = true) (b : f < bI c) (h : kT c f = some i) : sW c f = (1, (i : Int)) := by
 rw [sW, Qad ⟨a, by omega, by have := (jC a).nd; rw [bI] at b; omega⟩, h]; rfl
theorem a1c {c f} (a : rt c = true) (b : f < bI c) (h : kT c f = none) : (sW c f).1 = 2 := by
 rw [sW, Qad ⟨a, by omega, by have := (jC a).nd; rw [bI] at b; omega⟩, h]; rfl
def f16 (b : List Nat) : List Value := (List.range 16).map fun i => bV (b.getD i 0)
section
variable {W0 : World} {N : FSz} {K : Act → World → Prop} {e : b0} {A B R R1 R2 R3 : List HP} {d : Nat} {x : Dk}
end
section
variable {rb vb pv tr : Nat} {cs : List Value}
theorem EL b rl (a i : Nat) (f : rl.length = 16) (g : i < 16) : sQ W0 130 [pV b, iQ i] (pt b (dD rl a) :: R) (.tuple #[wV (rl.getD i 0), iQ 0]) (pt b (dD rl a) :: R) := by
 have c : gO i = true := by grind [gO]
 have h : (rl.map wV ++ [Value.bool true, wV a])[i * 1]? = some (wV (rl.getD i 0)) := by
  grind
 refine ju 13 func130 ntmps130 ?_
 refine aA rfl (fun d => ?_) fun d => ?_
 cases d
 refine aw ?_
 refine dV 9 (ap GQ (AU b rl a f i)) ?_
 refine ai (fun e => ?_) fun e => ?_
 exact absurd e (by rw [c]; decide)
 refine aa (ew g) ?_
 refine aa (aE (aI h)) ?_
 exact az ao
theorem a1d k ck a b d (c : List Nat) (h : c.length = 16) zs (e : zs.length = 16) : d7 ([iQ k, iQ ck, wV a, wV b, wV d] ++ zs) 5 (c.map wV) = [iQ k, iQ ck, wV a, wV b, wV d] ++ c.map wV :=
  zM (c.map wV) zs [iQ k, iQ ck, wV a, wV b, wV d] (by grind)
theorem EM {S N e o0 o1 o2 o3 o4 o5 k ck a b d} {c : List Nat} (f : c.length = 16) (g : ev e o0 = some (iQ k)) (h : ev e o1 = some (iQ ck)) (i : ev e o2 = some (wV a)) (j : ev e o3 = some (wV b)) (l : ev e o4 = some (wV d)) (m : ev e o5 = some (.agg (c.map wV).toArray)) :
    bP Tryz.prog S N e (.build 300 #[(0, o0), (1, o1), (2, o2), (3, o3), (4, o4), (5, o5)]) (.agg ([Value.int .i64 k, iQ ck, wV a, wV b, wV d] ++ c.map wV).toArray) :=
  fR (l' := [Value.int .i64 k, iQ ck, wV a, wV b, wV d] ++ c.map wV) underlying300 zy (aP aR (aP aR (aP aW (aP aW (aP aW (aP rj fQ))))))
    (cA (l' := [iQ k, iQ 0, .int .u32 0, .int .u32 0, .int .u32 0] ++ List.replicate 16 (.int .u32 0)) rfl aR g rfl (Qab rfl) rfl
    (cA (l' := [iQ k, iQ ck, .int .u32 0, .int .u32 0, .int .u32 0] ++ List.replicate 16 (.int .u32 0)) rfl aR h rfl (Qab rfl) rfl
    (cA (l' := [iQ k, iQ ck, wV a, .int .u32 0, .int .u32 0] ++ List.replicate 16 (.int .u32 0)) rfl aW i rfl (Qab rfl) rfl
    (cA (l' := [iQ k, iQ ck, wV a, wV b, .int .u32 0] ++ List.replicate 16 (.int .u32 0)) rfl aW j rfl (Qab rfl) rfl
    (cA (l' := [iQ k, iQ ck, wV a, wV b, wV d] ++ List.replicate 16 (.int .u32 0)) rfl aW l rfl (Qab rfl) rfl
    (kh rfl rj m (by grind) (by simp) (a1d k ck a b d c f _ (by simp)) fP))))))
theorem a1e b es k ck x y z rl (a : rl.length = 16) (c : es.length < 4096) : sQ W0 167 [pV b, .agg ([Value.int .i64 k, iQ ck, wV x, wV y, wV z] ++ rl.map wV).toArray] (fJ b es :: R) (iQ 0) (fJ b (es ++ [⟨k, ck, x, y, z, rl⟩]) :: R) := by
 have := a0Q W0 R b es ⟨k, ck, x, y, z, rl⟩ c
 rwa [Kb (e := ⟨k, ck, x, y, z, rl⟩) a] at this
def qL (rl : List Nat) (e w : Nat) : List Nat := (rl.set 1 e).set 2 w
theorem a1f {l : List Nat} (h : l.length = 16) : ∃ g i j k m n o p q r a b c d e f, l = [g, i, j, k, m, n, o, p, q, r, a, b, c, d, e, f] := by
 match l, h with
 | [g, i, j, k, m, n, o, p, q, r, a, b, c, d, e, f], _ => exact ⟨g, i, j, k, m, n, o, p, q, r, a, b, c, d, e, f, rfl⟩
end
end
section
abbrev dk := Int × Int
abbrev jD := Int × Int × Int
def mn (k : dk) (e : jD) (u : Int) : It := ⟨k.1, k.2, e.1, e.2.1, e.2.2, u⟩
def jX (k : dk) (l : List It) : List It := l.filter (fun x => decide (x.key ≠ k))
theorem t6 {k l x} : x ∈ jX k l ↔ x ∈ l ∧ x.key ≠ k := by simp [jX]
theorem EN {k : dk} {l : List It} (h : ∀ x ∈ l, x.key ≠ k) : jX k l = l := QaT.2 fun x a => by simpa using h x a
structure Rep (its : List It) (now : Nat) (L : List It) : Prop where
  perm : its.Perm L
  heap : Heap its its.length
  sort : L.Pairwise (fun x y => x.u < y.u)
  le : ∀ x ∈ L, x.u ≤ (now : Int)
  keys : (L.map It.key).Nodup
theorem Rep.nil : Rep [] 0 [] := ⟨List.Perm.nil, fun c a => by simp at a, List.Pairwise.nil, fun _ h => by simp at h, QcZ⟩
theorem Rep.length {its L now} (h : Rep its now L) : its.length = L.length := h.perm.length_eq
theorem Rep.keysI {its L now} (h : Rep its now L) : (its.map It.key).Nodup := (h.perm.map It.key).symm.nodup h.keys
def lS (k : dk) (x : It) (L : List It) : List It := jX k L ++ [x]
theorem Kl {L k x} {a : Nat} (b : L.Pairwise (fun x y => x.u < y.u)) (c : ∀ x ∈ L, x.u ≤ (a : Int)) (e : x.u = (a : Int) + 1) : (lS k x L).Pairwise (fun x y => x.u < y.u) := by
 refine List.pairwise_append.2 ⟨b.filter _, List.pairwise_singleton _ _, fun y d z f => ?_⟩
 obtain rfl : z = x := by grind
 have := c y (t6.1 d).1; omega
theorem Km {L} {k : dk} {x : It} (h : (L.map It.key).Nodup) (c : x.key = k) : ((lS k x L).map It.key).Nodup := by
 unfold lS
 rw [QaH]
 refine Qbp.2 ⟨?_, by simp, fun a d b f => ?_⟩
 exact QcH (QcD _ QbA) h
 obtain rfl : b = x.key := by grind
 obtain ⟨y, e, rfl⟩ := Qbd.1 d
 rw [c]; exact (t6.1 e).2
theorem Kn {L k x} {a : Nat} (b : ∀ x ∈ L, x.u ≤ (a : Int)) (d : x.u = (a : Int) + 1) : ∀ y ∈ lS k x L, y.u ≤ (a + 1 : Nat) := fun y c => by
 rcases QaY.1 c with h | h
 have := b y (t6.1 h).1; omega
 grind
theorem a1g {a : List It} {k : dk} {i x} (m : (a.map It.key).Nodup) (r : i < a.length) (c : (a.getD i default).key = k) : (a.set i x).Perm (lS k x a) := by
 have n : a.getD i default = a[i] := by grind
 rw [n] at c
 have e : a = a.take i ++ a[i] :: a.drop (i + 1) := by simp_all
 have o : a.set i x = a.take i ++ x :: a.drop (i + 1) := by grind
 have p : jX k a = a.take i ++ a.drop (i + 1) := by
  have f := m
  rw [e, QaH, QaL] at f
  have b := Qbp.1 f
  have q := Qbx.1 b.2.1
  conv => lhs; rw [e]
  unfold jX
  rw [QbG, List.filter_cons_of_neg (by simp [c])]
  have g := EN (k := k) (l := a.take i) (fun y d h => b.2.2 y.key (QbQ d) a[i].key (by simp) (by rw [h, c]))
  have j := EN (k := k) (l := a.drop (i + 1)) (fun y d h => q.1 (by rw [c, ← h]; exact QbQ d))
  unfold jX at g j
  rw [g, j]
 rw [o, lS, p]
 exact List.perm_middle.trans (List.perm_append_singleton x _).symm
theorem Rep.setI {its its' L now i} {k : dk} {x : It} (h : Rep its now L) (b : i < its.length) (c : (its.getD i default).key = k) (d : x.key = k) (a : x.u = now + 1)
    (e : its'.Perm (its.set i x)) (f : Heap its' its'.length) : Rep its' (now + 1) (lS k x L) :=
  ⟨e.trans ((a1g h.keysI b c).trans ((h.perm.filter _).append_right _)), f, Kl h.sort h.le a, Kn h.le a, Km h.keys d⟩
def nM (k : dk) (L : List It) : Option It := L.find? (fun x => decide (x.key = k))
theorem Rep.noneI {its L now} {k : dk} (h : Rep its now L) (b : ∀ x ∈ its, x.key ≠ k) : nM k L = none ∧ jX k L = L :=
  ⟨QbX.2 fun x a => by simpa using b x (h.perm.mem_iff.2 a), EN fun x a => b x (h.perm.mem_iff.2 a)⟩
theorem B6 {L k y} (h : nM k L = some y) : y ∈ L ∧ y.key = k := ⟨Qcq h, by simpa using List.find?_some h⟩
theorem a1h {L} {k : dk} {y : It} (d : (L.map It.key).Nodup) (b : y ∈ L) (e : y.key = k) : nM k L = some y := by
 cases c : nM k L with
 | none => exact absurd e (by simpa using QbX.1 c y b)
 | some z =>
  obtain ⟨h, f⟩ := B6 c
  have : z = y := by
   clear c
   induction L with
   | nil => simp at b
   | cons a L i =>
    simp only [QaL, Qbx] at d
    rcases QaO.1 b with j | g
    grind
    grind
  rw [this]
theorem Rep.someI {its L now i} {k : dk} (h : Rep its now L) (a : i < its.length) (b : (its.getD i default).key = k) : nM k L = some (its.getD i default) := by
 have c : its.getD i default = its[i] := by grind
 refine a1h h.keys (h.perm.mem_iff.1 ?_) b
 rw [c]; exact QaG a
theorem Rep.dropI {its its' L now} {k : dk} {y : It} (h : Rep its now L) (f : y.key = k) (a : (its' ++ [y]).Perm its) (c : Heap its' its'.length) : Rep its' now (jX k L) := by
 have b : ((its' ++ [y]).map It.key).Nodup := (a.map _).symm.nodup h.keysI
 rw [QaH] at b
 have g := Qbp.1 b
 have e : jX k (its' ++ [y]) = its' := by
  simp_all [jX, QbG, List.filter_cons_of_neg]
 refine ⟨?_, c, h.sort.filter _, fun x d => h.le x (t6.1 d).1, QcH (QcD _ QbA) h.keys⟩
 have := (a.trans h.perm).filter (fun x => decide (x.key ≠ k))
 rw [← e]; exact this
theorem Rep.pushI {its its' L now} {k : dk} {x : It} (h : Rep its now L) (b : ∀ y ∈ its, y.key ≠ k) (c : x.key = k) (a : x.u = now + 1) (d : its'.Perm (its ++ [x])) (e : Heap its' its'.length) : Rep its' (now + 1) (lS k x L) :=
  ⟨by unfold lS; rw [(h.noneI b).2]; exact d.trans (h.perm.append_right _), e, Kl h.sort h.le a, Kn h.le a, Km h.keys c⟩
theorem Rep.popI {its its' L now y} (h : Rep its now L) (f : (its' ++ [y]).Perm its) (i : Heap its' its'.length) (a : ∀ z ∈ its, y.u ≤ z.u) : Rep its' now L.tail := by
 have b : y ∈ L := (f.trans h.perm).mem_iff.1 (by simp)
 cases L with
 | nil => simp at b
 | cons z T =>
  have g := Qbi.1 h.sort
  have c : y = z := by
   rcases QaO.1 b with e | j
   exact e
   have l := g.1 y j
   have m := a z (h.perm.mem_iff.2 (by simp))
   omega
  subst c
  have d : (y :: its').Perm (y :: T) := (List.perm_append_singleton y its').symm.trans (f.trans h.perm)
  exact ⟨List.Perm.cons_inv d, i, g.2, fun x k => h.le x (QbJ _ k), (Qbx.1 (by simpa using h.keys)).2⟩
def om (room now : Nat) (k : dk) (e : jD) (L : List It) : List It :=
  if room < (lS k (mn k e (now + 1 : Nat)) L).length then (lS k (mn k e (now + 1 : Nat)) L).tail else lS k (mn k e (now + 1 : Nat)) L
def t7 (now : Nat) (k : dk) (L : List It) : List It := match nM k L with | none => L | some y => lS k (mn k y.ent (now + 1 : Nat)) L
theorem B7 k L : (jX k L).length ≤ L.length := QaM _ _
theorem EO k x L : (lS k x L).length = (jX k L).length + 1 := by simp [lS]
theorem Ko {k L y} (h : nM k L = some y) : (jX k L).length < L.length := by
 obtain ⟨a, b⟩ := B6 h
 exact List.length_filter_lt_length_iff_exists.2 ⟨y, a, by simpa using b⟩
theorem Kp {room now k e L} (h : L.length ≤ room) : (om room now k e L).length ≤ room := by
 grind [B7, om, List.length_tail, EO]
theorem a1i {now k L} : (t7 now k L).length ≤ L.length := by
 unfold t7; split
 omega
 rename_i y a; rw [EO]; exact Ko a
end
section
open Go.RowKit
@[reducible] def cX (room now : Nat) : List Value := [.int .i64 room, .int .i64 now, .bool true]
theorem Kq b its room now L (k : dk) (e : jD) (o : Rep its now L) (U : L.length ≤ room) (V : room ≤ 4) (G : now < 1000000) : sP W0 382 [pQ b, .agg (gY k).toArray, .agg (mZ e).toArray] (aU b (its, cX room now) :: R) (fun v B => v = iQ 0 ∧ ∃ d, B = aU b (d, cX room (now + 1)) :: R ∧ Rep d (now + 1) (om room now k e L)) := by
 have H := o.length
 refine am func382 ntmps382 ?_
 refine bz fun w => ?_
 refine bz fun M => ?_
 refine dV 5 (ap zA (w8 b its _ _)) ?_
 refine cF (fun l : Nat => True) (fun l => [(0, pQ b), (4, pQ w), (7, pQ l)]) (fun l => pt l (ag (bM (mn k e (now + 1 : Nat))) 282) :: pt w (ag (gY k) 51) :: aU b (its, cX room (now + 1)) :: R) ?_ ?_
 refine bq [w, M] 8 fun a => ?_
 refine aj 0 2 a ?_
 refine ax 2 a (fR NU Ck (aP rh (aP s8 fQ)) (kh rfl rh rfl rfl (Qab rfl) SetRL.eq (kh rfl s8 rfl rfl (Qab rfl) SetRL.eq fP))) ?_
 refine aj 3 1 a ?_
 refine fG (is := [4, 6]) (by kernel_rfl) rfl ⟨?_, ?_, trivial⟩
 refine dy (ap Oj (Ki b its _ now G)) ?_; clear a
 rintro _ W ⟨rfl, z⟩
 obtain rfl := z.symm
 refine ⟨aT, fun a => ?_⟩
 refine ax 5 a (fR tI se (aP pU (aP aR fQ)) (kh rfl pU rfl rfl (Qab rfl) SetRL.eq (cA rfl aR rfl rfl (Qab rfl) SetL.eq fP))) ?_
 refine cj 6 (dx se) ?_; clear a
 rintro _ _ ⟨l, rfl, rfl⟩
 refine ⟨aT, fun a => ?_⟩
 refine cp 7 aF fun a => ?_
 refine aJ ?_
 refine bu l ?_ (he := ?_)
 trivial
 show Ent (pt l (ag (bM (mn k e (now + 1 : Nat))) _) :: _) _
 exact IO
 skip
 refine dy (dx se) ?_; clear a
 rintro _ _ ⟨l, rfl, rfl⟩
 refine ⟨aT, fun a => ?_⟩
 refine cg 4 (ap Oj (Ki b its _ now G)) fun a => ?_
 refine ax 5 a (fR tI se (aP pU (aP aR fQ)) (kh rfl pU rfl rfl (Qab rfl) SetRL.eq (cA rfl aR rfl rfl (Qab rfl) SetL.eq fP))) ?_
 refine cp 7 aF fun a => ?_
 refine i6 ?_
 refine aH ?_
 refine bu l ?_ (he := ?_)
 trivial
 show Ent (pt l (ag (bM (mn k e (now + 1 : Nat))) _) :: _) _
 exact IO
 intro l _
 refine aO (aO (aX (ae rfl (aM rfl) (ae rfl (pB C6 rh rfl rfl) ?_))))
 refine aD rfl (ap Ol (EH b its _ k (by omega))) ?_
 rintro _ _ ⟨r, rfl, rfl, I⟩
 refine ae rfl (bA rfl) (aL (aH (aO (aX (ae rfl (aM rfl) (ae rfl (vf rfl rfl) (aL (aH ?_))))))))
 refine aA rfl (fun N => ?_) fun N => ?_
 obtain ⟨i, rfl, n, J⟩ : ∃ i : Nat, r = (i : Int) ∧ i < its.length ∧ (its.getD i default).key = k := by
  rcases I with ⟨h, _⟩ | h
  omega
  exact h
 refine aO ?_
 refine EG (b := b) (w7 n) fun g c K O P Q => ?_
 refine bq [b, l] 9 fun a => ?_
 refine dp 0 rfl rfl rfl a (aM rfl) ?_
 refine dp 1 rfl rfl rfl a (kI rfl) ?_
 refine dp 2 rfl rfl rfl a (d5 rfl Gv rfl Gl rfl (by first | exact Qac _ | rfl)) ?_
 refine dp 3 rfl rfl rfl a (d5 rfl a8l rfl Nz rfl (by first | exact Qac _ | rfl)) ?_
 refine dp 4 rfl rfl rfl a (cu Gg rfl (by first | exact dm (k := 0) rfl rfl | exact dm (k := 1) rfl rfl)) ?_
 refine dp 5 rfl rfl rfl a (aM rfl) ?_
 refine dp 6 rfl rfl rfl a (iD nj fg rfl (by first | exact jN (k := 0) rfl | exact jN (k := 1) rfl) rfl) ?_
 refine ax 7 a (bJ n) ?_
 refine cp 8 (iH (pN its K i n) (qK its K i (mn k e (now + 1 : Nat)) n)) fun a => ?_
 refine i6 ?_
 refine aH (aO ?_)
 refine Ke (b := b) (its := its.set i (mn k e (now + 1 : Nat))) rfl (by simp) O P (by simpa [cJ iY] using Q) ?_
 refine aX (ae rfl (aM rfl) (ae rfl (kI rfl) ?_))
 refine ae rfl (d5 rfl Gv rfl Gl rfl (by first | exact Qac _ | rfl)) ?_
 refine ae rfl (xe NS (fun _ h => by cases h) rfl) ?_
 refine ae rfl (aM rfl) ?_
 refine aD rfl (ap call420 (Kf b (its.set i (mn k e (now + 1 : Nat))) _ i (by simp; omega) (by grind) (by rw [Qap]; exact E5 o.heap n))) ?_
 rintro _ _ ⟨rfl, d, rfl, p, u⟩
 refine aL (aH (aO (aX (ae rfl (bA rfl) (aL (aH (dE (iU (ac ?_)))))))))
 refine ⟨_, ⟨rfl, d, rfl, ?_⟩, IO⟩
 have S := Ko (o.someI n J)
 rw [om, Qaa (by rw [EO]; omega)]
 exact o.setI n J rfl (by simp [mn]) p (by rw [p.length_eq]; exact u)
 have A : ∀ x ∈ its, x.key ≠ k := by
  rcases I with ⟨_, h⟩ | ⟨i, h, _⟩
  exact h
  omega
 refine jd (aH (aO ?_))
 refine bq [l] 7 fun a => ?_
 refine dp 0 rfl rfl rfl a (aM rfl) ?_
 refine dp 1 rfl rfl rfl a (kI rfl) ?_
 refine dp 2 rfl rfl rfl a (d5 rfl Gv rfl Gl rfl (by first | exact Qac _ | rfl)) ?_
 refine dp 3 rfl rfl rfl a (xe NS (fun _ h => by cases h) rfl) ?_
 refine dp 4 rfl rfl rfl a (iD nj fg rfl (jN (k := 0) rfl) rfl) ?_
 refine dp 5 rfl rfl rfl a (xe tI (fun _ h => by cases h) rfl) ?_
 refine cj 6 (ap GL (heapPush_spec b its (mn k e (now + 1 : Nat)) _ (by omega) o.heap)) ?_; clear a
 rintro _ _ ⟨rfl, f, rfl, p, u⟩
 have q := o.pushI A (x := mn k e (now + 1 : Nat)) rfl (by simp [mn]) p u
 have C := q.length
 have T : f.length = its.length + 1 := by rw [p.length_eq]; simp
 refine ⟨aT, fun a => ?_⟩
 refine aJ ?_
 refine fj [(b, 1, cX room (now + 1))] 9 mixed rfl (bU Kd bH) (fun a => ?_)
 refine aj 0 3 a ?_
 refine aj 4 3 a ?_
 refine ax 7 a (aE (kJ (k := 0) (j := 0) rfl rfl)) ?_
 refine gy 3 rfl rfl (ap v6 (t2 b f _)) (bU Kd bH) fun a => ?_
 refine aj 8 1 a ?_
 refine aJ ?_
 refine ai (fun D => ?_) fun D => ?_
 refine aD rfl (ap GN (heapPop_spec b f _ (by omega) (w7 (i := 0) (by omega)) u)) ?_
 rintro _ _ ⟨y, s, rfl, rfl, E, F, t⟩
 have m : Rep s (now + 1) (om room now k e L) := by
  rw [om, Qad (by omega)]; exact q.popI E F t
 refine aw ?_
 refine ac ?_
 exact ⟨_, ⟨rfl, _, rfl, m⟩, IO⟩
 have m : Rep f (now + 1) (om room now k e L) := by
  grind [om]
 refine ac ?_
 exact ⟨_, ⟨rfl, _, rfl, m⟩, IO⟩
def yi (k : dk) (L : List It) : Value := match nM k L with
 | none => .tuple #[.agg (mZ (0, 0, 0)).toArray, .bool false]
 | some y => .tuple #[.agg (mZ y.ent).toArray, .bool true]
theorem EP b its room now L (k : dk) (f : Rep its now L) (D : L.length ≤ room) (E : room ≤ 4) (t : now < 1000000) : sP W0 377 [pQ b, .agg (gY k).toArray] (aU b (its, cX room now) :: R) (fun v B => v = yi k L ∧ ∃ a d, d ≤ now + 1 ∧ B = aU b (a, cX room d) :: R ∧ Rep a d (t7 now k L)) := by
 have n := f.length
 refine am func377 ntmps377 ?_
 refine bz fun F => ?_
 refine bj fun G => ?_
 refine ah (ap zA (w8 b its _ _)) ?_
 refine aD rfl (ap Ol (EH b its _ k (by omega))) ?_
 rintro _ _ ⟨r, rfl, rfl, o⟩
 refine aw ?_
 refine aA rfl (fun w => ?_) fun w => ?_
 have j : ∀ x ∈ its, x.key ≠ k := by
  rcases o with ⟨_, h⟩ | ⟨i, h, _⟩
  exact h
  omega
 refine aw ?_
 refine ar aF ?_
 refine aV (.cons (bi za s8 rfl rfl) (.cons (aS rfl) .nil)) ?_
 refine ⟨_, ⟨?_, its, now, by omega, rfl, ?_⟩, IO⟩
 simp [aN, yi, (f.noneI j).1]
 rw [t7, (f.noneI j).1]; exact f
 obtain ⟨i, rfl, e, p⟩ : ∃ i : Nat, r = (i : Int) ∧ i < its.length ∧ (its.getD i default).key = k := by
  rcases o with ⟨h, _⟩ | h
  omega
  exact h
 refine aw ?_
 refine EG (b := b) (w7 e) fun g c q y z A => ?_
 refine aw ?_
 refine aa (bJ e) ?_
 refine aa (df (cV (a0R its q i e) rfl)) ?_
 refine bj fun H => ?_
 refine ar aF ?_
 refine fj [(b, 0, [.slice (some ⟨g, 0, none⟩) its.length c])] 11 mixed rfl (bU (pA rfl) bH) (fun l => ?_)
 refine aj 0 7 l ?_
 refine gy 7 rfl rfl (ap Oj (Kh b _ _ now t)) (bU (pA rfl) bH) fun l => ?_
 refine ax 8 l (bJ e) ?_
 refine aj 9 1 l ?_
 refine m8 10 rfl rfl (dq (by omega) (a0S its q i _ e)) (bU (pA rfl) bH) fun l => ?_
 refine aJ ?_
 refine Ke (b := b) (its := its.set i { its.getD i default with u := (now + 1 : Nat) }) rfl (by simp) y z (by simpa [cJ iY] using A) ?_
 refine aw ?_
 refine aD rfl (ap call420 (Kf b (its.set i { its.getD i default with u := (now + 1 : Nat) }) _ i (by simp; omega) (by grind) (by rw [Qap]; exact E5 f.heap e))) ?_
 rintro _ _ ⟨rfl, a, rfl, s, C⟩
 refine aw ?_
 refine ar aF ?_
 refine aV (.cons (bi za s8 rfl rfl) (.cons (aS rfl) .nil)) ?_
 have m := f.someI e p
 refine ⟨_, ⟨?_, a, now + 1, by omega, rfl, ?_⟩, IO⟩
 simp [aN, yi, m, It.ent]
 rw [t7, m]; subst p
 exact f.setI e rfl rfl (by simp [mn]) s (by rw [s.length_eq]; exact C)
theorem EQ b its tr now L (k : dk) (c : Rep its now L) (p : L.length ≤ 100) tw : sP W0 233 [pQ b, .agg (gY k).toArray] (aU b (its, [tr, tw, .bool true]) :: R) (fun v B => v = .bool (nM k L).isSome ∧ ∃ a, B = aU b (a, [tr, tw, .bool true]) :: R ∧ Rep a now (jX k L)) := by
 have g := c.length
 refine am func233 ntmps233 ?_
 refine bz fun q => ?_
 refine ah (ap zA (w8 b its _ _)) ?_
 refine aD rfl (ap Ol (EH b its _ k (by omega))) ?_
 rintro _ _ ⟨r, rfl, rfl, j⟩
 refine aw ?_
 refine aA rfl (fun m => ?_) fun m => ?_
 have d : ∀ x ∈ its, x.key ≠ k := by
  rcases j with ⟨_, h⟩ | ⟨i, h, _⟩
  exact h
  omega
 refine aw ?_
 refine ac ?_
 refine ⟨_, ⟨?_, its, rfl, ?_⟩, IO⟩
 simp [aN, (c.noneI d).1]
 rw [(c.noneI d).2]; exact c
 obtain ⟨i, rfl, l, e⟩ : ∃ i : Nat, r = (i : Int) ∧ i < its.length ∧ (its.getD i default).key = k := by
  rcases j with ⟨h, _⟩ | h
  omega
  exact h
 refine aw ?_
 refine aD rfl (ap call271 (heapRemove_spec b its _ i (by omega) l c.heap)) ?_
 rintro _ _ ⟨a, rfl, rfl, n, o⟩
 refine aa (sx tI (fun _ h => by cases h) rfl) ?_
 refine bj fun s => ?_
 refine ar aF ?_
 refine aa (df (cV (vs := [iQ (its.getD i default).kr, iQ (its.getD i default).kp]) rfl rfl)) ?_
 refine aa (vj Tryz.eqGuardType51 rfl rfl (tU Ce Tryz.stoodInHeld51 (li rfl di rfl rfl (lH jI) (li rfl di rfl rfl (lH jI) tT)))) ?_
 refine ac ?_
 have f := c.someI l e
 refine ⟨_, ⟨?_, a, rfl, c.dropI e n o⟩, IO⟩
 rw [f]; subst e
 simp [aN, It.key]
def B8 (lo : Nat) (l : List It) (n : Nat) : Prop := ∀ c, c < n → 0 < c → lo ≤ (c - 1) / 2 → us l ((c - 1) / 2) ≤ us l c
def wa (lo : Nat) (l : List It) (i n : Nat) : Prop := ∀ c, c < n → 0 < c → (lo ≤ (c - 1) / 2 → c ≠ i → (c - 1) / 2 ≠ i → us l ((c - 1) / 2) ≤ us l c) ∧ ((c - 1) / 2 = i → lo < i → us l ((i - 1) / 2) ≤ us l c)
theorem a1j {lo l i j n} (h : wa lo l i n) (p : lo ≤ i) (v : n ≤ l.length) (q : j < n) (g : (j - 1) / 2 = i) (r : 0 < j) (s : us l j < us l i)
    (k : ∀ c, c < n → 0 < c → (c - 1) / 2 = i → us l j ≤ us l c) : wa lo (swapL l i j) j n ∧ us (swapL l i j) ((j - 1) / 2) ≤ us (swapL l i j) j := by
 have t : i < j := by omega
 have d := kP (l := l) (i := i) (j := j) (by omega) (by omega)
 refine ⟨fun c a b => ⟨fun u e m => ?_, fun e m => ?_⟩, ?_⟩
 rw [d, d]
 by_cases f : c = i
 subst f
 have := (h j q r).2 g (by omega)
 rw [Qaa (by omega), Qaa (by omega), Qad rfl]; exact this
 by_cases o : (c - 1) / 2 = i
 grind
 rw [Qaa o, Qaa m, Qaa f, Qaa e]; exact (h c a b).1 u f o
 rw [g, d, d, Qad rfl, Qaa (by omega), Qaa (by omega)]
 rw [← e]; exact (h c a b).1 (by omega) (by omega) (by omega)
 grind
theorem Kr {lo l i n} (h : wa lo l i n) (a : ∀ c, c < n → 0 < c → (c - 1) / 2 = i → us l i ≤ us l c) (j : lo < i → us l ((i - 1) / 2) ≤ us l i) : B8 lo l n := fun c b d e => by
 by_cases f : (c - 1) / 2 = i
 grind
 by_cases g : c = i
 grind
 exact (h c b d).1 e g f
theorem a1k {lo l n} (h : B8 (lo + 1) l n) : wa lo l lo n := fun c a b => ⟨fun d _ e => h c a b (by omega), fun _ h => absurd h (Nat.lt_irrefl _)⟩
theorem a1l b its tl i0 n (D : n ≤ its.length) (E : n < 1000) (F : i0 ≤ n) (G : wa i0 its i0 n) : sP W0 272 [nL b, iQ i0, iQ n] (aU b (its, tl) :: R) (fun v B => ∃ l m, v = .bool m ∧ B = aU b (l, tl) :: R ∧ l.Perm its ∧ B8 i0 l n) := by
 refine am Oa ntmps272 ?_
 refine d4 (fun X : List It × Nat => X.1.Perm its ∧ i0 ≤ X.2 ∧ wa i0 X.1 X.2 n ∧ (i0 < X.2 → us X.1 ((X.2 - 1) / 2) ≤ us X.1 X.2) ∧ X.2 ≤ n) (fun X => [(0, nL b), (1, iQ i0), (2, iQ n), (7, iQ X.2)]) (fun X => aU b (X.1, tl) :: R) (fun X => n - X.2) (its, i0) ?_ ?_
 grind
 intro ⟨l, i⟩ ⟨h, k, r, s, t⟩
 have o := h.length_eq
 simp only at h k r s t o ⊢
 refine aw ?_
 refine aa u9 ?_
 refine aa (dU (2 * i + 1)) ?_
 refine cz (fun p => ?_) fun p => ?_
 refine ac ?_
 refine ⟨_, ⟨l, decide (i0 < i), by simp [aN], rfl, h, Kr r ?_ s⟩, IO⟩
 first | (intro c d e f; exfalso; omega) | (intro c d e f; have := a c d e f; simp at g; omega)
 refine aA rfl (fun z => ?_) fun z => ?_
 omega
 refine au 8 ?_
 refine cF (fun j : Nat => (j - 1) / 2 = i ∧ 0 < j ∧ j < n ∧ ∀ c, c < n → 0 < c → (c - 1) / 2 = i → us l j ≤ us l c) (fun j => [(0, nL b), (1, iQ i0), (2, iQ n), (7, iQ i), (9, iQ j)]) (fun j => aU b (l, tl) :: R) ?_ ?_
 refine au 3 ?_
 refine aa (dU (2 * i + 2)) ?_
 refine bO (fun q => ?_) fun q => ?_
 refine ah (fz rfl ((fun w => yd w _)) Cw rfl (y8 b l tl (2 * i + 2) (2 * i + 1) (by omega) (by omega))) ?_
 refine ai (fun A => ?_) fun A => ?_
 refine bu (2 * i + 2) ?_
 refine ⟨by omega, by omega, by omega, fun c d e f => ?_⟩
 have : c = 2 * i + 1 ∨ c = 2 * i + 2 := by omega
 rcases this with rfl | rfl <;> omega
 refine bu (2 * i + 1) ?_
 refine ⟨by omega, by omega, by omega, fun c d e f => ?_⟩
 have : c = 2 * i + 1 ∨ c = 2 * i + 2 := by omega
 rcases this with rfl | rfl <;> omega
 refine bu (2 * i + 1) ?_
 refine ⟨by omega, by omega, by omega, fun c d e f => ?_⟩
 have : c = 2 * i + 1 ∨ c = 2 * i + 2 := by omega
 rcases this with rfl | rfl <;> omega
 intro j ⟨C, u, x, a⟩
 refine aw ?_
 refine ah (fz rfl ((fun w => yd w _)) Cw rfl (y8 b l tl j i (by omega) (by omega))) ?_
 refine aA rfl (fun g => ?_) fun g => ?_
 refine au 15 ?_
 refine ac ?_
 refine ⟨_, ⟨l, decide (i0 < i), by simp [aN], rfl, h, Kr r ?_ s⟩, IO⟩
 first | (intro c d e f; exfalso; omega) | (intro c d e f; have := a c d e f; simp at g; omega)
 replace g : us l j < us l i := by simpa using g
 refine aw ?_
 refine ah (fz rfl ((fun w => yf w _)) Cx rfl (y9 b l tl i j (by omega) (by omega))) ?_
 refine bR (swapL l i j, j) ?_ (hμ := ?_)
 have y := a1j r k (by omega) x C u g a
 exact ⟨(lO (by omega) (by omega)).trans h, by show i0 ≤ j; omega, y.1, fun _ => y.2, by show j ≤ n; omega⟩
 show n - j < n - i; omega
theorem a1m b its tl (h : its.length < 1000) : sP W0 461 [nL b] (aU b (its, tl) :: R) (fun v B => ∃ l, v = .tuple #[] ∧ B = aU b (l, tl) :: R ∧ l.Perm its ∧ Heap l l.length) := by
 refine am func461 ntmps461 ?_
 refine ah (fz rfl ((fun w => ya w _)) v6 rfl (t2 b its tl)) ?_
 refine aa (nr rfl rfl (by decide) ((Qai (IntKind.wrap .i64) (ql its.length 2)).trans (co (by omega)))) ?_
 refine aa gF ?_
 refine d4 (fun X : List It × Nat => X.1.Perm its ∧ X.2 ≤ its.length / 2 ∧ B8 X.2 X.1 its.length) (fun X => [(0, nL b), (2, iQ (its.length : Nat)), (3, iQ ((X.2 : Int) - 1))]) (fun X => aU b (X.1, tl) :: R) (fun X => X.2) (its, its.length / 2) ?_ ?_
 exact ⟨QaN _, Qam _, fun c j f n => by dsimp only at n; omega⟩
 intro ⟨l, k⟩ ⟨a, o, d⟩
 dsimp only at a o d ⊢
 have g := a.length_eq
 refine aw ?_
 refine ai (fun p => ?_) fun p => ?_
 obtain ⟨i, rfl⟩ : ∃ i, k = i + 1 := ⟨k - 1, by omega⟩
 have e : (((i + 1 : Nat) : Int) - 1) = (i : Int) := by omega
 rw [e]
 refine aD rfl (ap zt (a1l b l tl i its.length (by omega) h (by omega) (a1k d))) ?_
 rintro _ _ ⟨q, m, rfl, rfl, r, s⟩
 refine aw ?_
 refine aa gF ?_
 refine bR (q, i) ?_
 grind
 refine bX (.inr rfl) .nil ?_
 obtain rfl : k = 0 := by omega
 exact ⟨_, ⟨l, rfl, rfl, a, fun c j f => d c (by omega) f (QaF _)⟩, IO⟩
structure PF (W0 : World) (f : FuncId) (cs : List Value) (C : HP) (p : It → Bool) : Prop where
  call : ∀ args w, (callFunc f args).run Tryz.prog w = .ok (.enter f args) w
  spec : ∀ x R, bE Tryz.prog W0 f ([] ++ [.agg (bM x).toArray] ++ cs) (kH 0 C :: R) (fun v B => v = .bool (p x) ∧ B = kH 0 C :: R)
theorem ER {α : Type} {f} (h : ∀ x, fi (f x) = true) : ∀ l : List α, fi (l.flatMap f) = true
 | [] => rfl
 | x :: l => by
  have a := h x
  have b := ER h l
  simp only [fi, QaQ, List.all_append, Qao] at a b ⊢
  exact ⟨a, b⟩
theorem a1n x : fi (bM x) = true := rfl
theorem a1o its a c (r : its.length < 1000) (f : cG (aQ W0 R) a 6 bM its) : sP W0 460 [.slice a its.length c] R (fun v B => ∃ g i, v = .slice g its.length i ∧ B = osl 282 6 (.slice g its.length i) (its.flatMap bM) :: R) := by
 refine am func460 ntmps460 ?_
 refine aa (A0 jH rfl rfl) ?_
 refine aA rfl (fun e => ?_) fun e => ?_
 refine au 7 ?_
 refine ac ?_
 have j : its = [] := by
  rcases its with _ | ⟨x, l⟩
  rfl
  obtain ⟨b, o, h, _⟩ := f 0 x rfl
  rw [e] at h; cases h
 subst j
 exact ⟨_, ⟨none, 0, rfl, rfl⟩, eX⟩
 have d := f.src iY (fun _ => trivial)
 refine jd (aH (aO (aX (aD rfl (vx jH fg rfl) ?_))))
 rintro _ _ ⟨s, rfl, rfl⟩
 refine aw ?_
 refine aD rfl (Aw (sz := 6) (by_ := 48) (info := Tryz.t282) jH (by kernel_rfl) rfl rfl rfl rfl (by decide) rfl rfl (news := its.flatMap bM) (by
 rcases d with h | ⟨k, m, n, p⟩
 grind
 right; exact ⟨k, m, n, p.weak⟩) (cJ iY its) (ER a1n its) (by simp only [maxLen]; omega) (by omega)) ?_
 rintro _ _ ⟨q, e, rfl, rfl⟩
 refine aw ?_
 refine ac ?_
 rw [Qac, Qaw]
 exact ⟨_, ⟨q, e, rfl, rfl⟩, IO⟩
def a1p (its : List It) (p : It → Bool) (r : Int) : Prop := (r = -1 ∧ ∀ i, i < its.length → p (its.getD i default) = false) ∨ ∃ i : Nat, r = (i : Int) ∧ i < its.length ∧ p (its.getD i default) = true ∧ ∀ j, j < i → p (its.getD j default) = false
theorem a1q its a c f cs C p (k : PF W0 f cs C p) (x : its.length < 1000) : sP W0 357 [.slice a its.length c, .func (.func f) #[] cs.toArray] (osl 282 6 (.slice a its.length c) (its.flatMap bM) :: kH 0 C :: R) (fun v B => ∃ r, v = iQ r ∧ B = osl 282 6 (.slice a its.length c) (its.flatMap bM) :: kH 0 C :: R ∧ a1p its p r) := by
 refine xg (fun d e => ?_) fun g n t l d e m o q => ?_
 have u : its.length = 0 := by grind
 obtain rfl : its = [] := QaE u
 cases d
 refine am GU ntmps357 ?_
 refine d4 (fun X : Nat => True) (fun X => [(7, iQ 0), (8, iQ X)]) (fun X => kH 0 C :: R) (fun X => X) 0 ?_ ?_
 trivial
 intro j w
 refine aw ?_
 refine aA rfl (fun h => ?_) fun h => ?_
 omega
 refine aw ?_
 refine ac ?_
 exact ⟨_, ⟨-1, rfl, rfl, .inl ⟨rfl, by simp⟩⟩, eX⟩
 cases d
 refine am GU ntmps357 ?_
 refine d4 (fun X : Nat => X ≤ its.length ∧ ∀ i, i < X → p (its.getD i default) = false) (fun X => [(0, .slice (some ⟨g, 0, none⟩) its.length c), (1, .func (.func f) #[] cs.toArray), (7, iQ (its.length : Nat)), (8, iQ X)]) (fun X => pt g (ag (its.flatMap bM ++ l) 282) :: kH 0 C :: R) (fun X => its.length - X) 0 ?_ ?_
 grind
 intro j ⟨w, b⟩
 refine aw ?_
 refine ai (fun h => ?_) fun h => ?_
 refine aa (bJ (by omega)) ?_
 refine aa (df (cV (lQ its l j (by omega)) rfl)) ?_
 refine ah (u6 (us := []) (cs := cs) rfl k.call rfl (k.spec (its.getD j default) _)) ?_
 refine ai (fun s => ?_) fun s => ?_
 refine ac ?_
 exact ⟨_, ⟨_, rfl, rfl, .inr ⟨j, rfl, by omega, s, b⟩⟩, fk e m o q⟩
 refine aa bY ?_
 refine bR (j + 1) ?_
 grind
 refine ac ?_
 exact ⟨_, ⟨-1, rfl, rfl, .inl ⟨rfl, fun i y => b i (by omega)⟩⟩, fk e m o q⟩
def jY (p : It → Bool) (l : List It) : List It := l.filter (fun x => !p x)
theorem Ks {p l} (h : ∀ i, i < l.length → p (l.getD i default) = false) : jY p l = l := QaT.2 fun x b => by
 obtain ⟨i, a, rfl⟩ := Qbc.1 b
 have := h i a
 simpa [List.getD, a] using this
theorem ES {p} {l : List It} {j} (h : j < l.length) : jY p (l.take (j + 1)) = jY p (l.take j) ++ (if p (l.getD j default) then [] else [l.getD j default]) := by
 grind [Qan, jY]
structure DelI (p : It → Bool) (its l : List It) (i j : Nat) : Prop where
  len : l.length = its.length
  ij : i < j
  jl : j ≤ its.length
  front : l.take i = jY p (its.take j)
  back : ∀ k, j ≤ k → l.getD k default = its.getD k default
theorem a1r {p} {l : List It} {i} (h : i < l.length) (b : p (l.getD i default) = true) (a : ∀ j, j < i → p (l.getD j default) = false) : jY p (l.take (i + 1)) = l.take i := by
 grind [ES, Qav, Ks]
theorem DelI.skip {p its l i j} (h : DelI p its l i j) (b : j < its.length) (a : p (l.getD j default) = true) : DelI p its l i (j + 1) := by
 refine ⟨h.len, by have := h.ij; omega, by omega, ?_, fun k c => h.back k (by omega)⟩
 rw [h.back j (Qam _)] at a
 rw [ES b, a, Qad rfl, Qav]; exact h.front
theorem DelI.move {p its l i j} (h : DelI p its l i j) (b : j < its.length) (a : p (l.getD j default) = false) : DelI p its (l.set i (l.getD j default)) (i + 1) (j + 1) := by
 have c := h.ij
 have d := h.len
 have e := h.back j (Qam _)
 rw [e] at a ⊢
 refine ⟨by rw [Qap]; exact d, by omega, by omega, ?_, fun k f => ?_⟩
 rw [ES b, a, Qaa (by decide), ← h.front, Qan (by rw [Qap]; omega), List.getElem_set_self, List.take_set_of_le (Qam _)]
 rw [← h.back k (by omega)]
 simp only [Qas]
 rw [QaW (by omega)]
theorem a1s its a c f cs C p (w : PF W0 f cs C p) (H : its.length < 1000) : sP W0 459 [.slice a its.length c, .func (.func f) #[] cs.toArray] (osl 282 6 (.slice a its.length c) (its.flatMap bM) :: kH 0 C :: R) (fun v B => ∃ D E, v = .slice D (jY p its).length E ∧ B = osl 282 6 (.slice D (jY p its).length E) ((jY p its).flatMap bM) :: kH 0 C :: R) := by
 refine am func459 ntmps459 ?_
 refine aD rfl (cq call357 (a1q its a c f cs C p w H)) ?_
 rintro _ F ⟨r, rfl, d, G⟩
 obtain rfl := d.symm
 refine aw ?_
 refine aA rfl (fun I => ?_) fun I => ?_
 refine au 8 ?_
 refine ac ?_
 have k : ∀ i, i < its.length → p (its.getD i default) = false := by
  rcases G with ⟨_, h⟩ | ⟨i, h, _⟩
  exact h
  omega
 rw [Ks k]
 exact ⟨_, ⟨a, c, rfl, rfl⟩, IO⟩
 obtain ⟨i, rfl, J, x, k⟩ : ∃ i : Nat, r = (i : Int) ∧ i < its.length ∧ p (its.getD i default) = true ∧ ∀ j, j < i → p (its.getD j default) = false := by
  rcases G with ⟨h, _⟩ | h
  omega
  exact h
 refine fT (r := osl 282 6) (b := .slice a its.length c) ?_
 refine km (fun y _ => by have := (Value.slice.inj y).2.1; omega) fun g n K e y T L U M => ?_
 cases y
 refine aw ?_
 refine aa (dU (i + 1)) ?_
 refine d4 (fun X : List It × Nat × Nat => DelI p its X.1 X.2.1 X.2.2) (fun X => [(0, .slice (some ⟨g, 0, none⟩) its.length c), (1, .func (.func f) #[] cs.toArray), (5, iQ X.2.1), (6, iQ X.2.2)]) (fun X => pt g (ag (X.1.flatMap bM ++ e) 282) :: kH 0 C :: R) (fun X => its.length - X.2.2) (its, i, i + 1) ?_ ?_
 exact ⟨rfl, Nat.lt_succ_self _, by show i + 1 ≤ its.length; omega, (a1r J x k).symm, fun _ _ => rfl⟩
 intro ⟨l, m, j⟩ hD
 dsimp only at hD ⊢
 have V := hD.len
 have N := hD.ij
 have O := hD.jl
 refine aw ?_
 refine aA rfl (fun P => ?_) fun P => ?_
 refine au 2 ?_
 refine cF (fun Z : List It × Nat => DelI p its Z.1 Z.2 (j + 1)) (fun Z => [(0, .slice (some ⟨g, 0, none⟩) its.length c), (1, .func (.func f) #[] cs.toArray), (5, iQ Z.2), (6, iQ j)]) (fun Z => pt g (ag (Z.1.flatMap bM ++ e) 282) :: kH 0 C :: R) ?_ ?_
 refine au 5 ?_
 refine aa (bJ (by omega)) ?_
 refine aa (df (cV (lQ l e j (by omega)) rfl)) ?_
 refine bj fun W => ?_
 refine fh (fN fg rfl rfl rfl rfl rfl) ?_
 rintro _ _ rfl
 refine aL (aH (aO (aX (ae rfl (aM rfl) (ae rfl (pB nj fg rfl rfl) ?_)))))
 refine aD rfl (u6 (us := []) (cs := cs) rfl w.call rfl (w.spec (l.getD j default) _)) ?_
 rintro _ F ⟨rfl, d⟩
 obtain rfl := d.symm
 refine ae rfl (rn rfl) (aL (aH ?_))
 refine aA rfl (fun z => ?_) fun z => ?_
 have o : p (l.getD j default) = false := by simpa using z
 refine aO (aX (ae rfl (aM rfl) (ae rfl (aM rfl) (ae rfl (pB nj fg rfl rfl) ?_))))
 refine ae rfl (jM jH fg rfl rfl rfl (by omega) (by first | exact Qac _ | rfl)) ?_
 refine ar (iH (pN l e m (by omega)) (qK l e m (l.getD j default) (by omega))) ?_
 refine aa (dU (m + 1)) ?_
 exact bu (l.set m (l.getD j default), m + 1) (hD.move (by omega) o)
 have o : p (l.getD j default) = true := by simpa using z
 refine aw ?_
 exact bu (l, m) (hD.skip (by omega) o)
 intro ⟨Q, S⟩ hD2
 refine aw ?_
 refine aa (dU (j + 1)) ?_
 refine bR (Q, S, j + 1) ?_ (hμ := ?_)
 exact hD2
 show its.length - (j + 1) < its.length - j; omega
 refine aw ?_
 obtain rfl : j = its.length := by omega
 have q := hD.front
 rw [QaU (Qam _)] at q
 have A : (jY p its).length = m := by rw [← q, QaR]; omega
 refine aa (xR jH fg rfl rfl rfl (by omega) (by omega) (Qac _)) ?_
 refine fh (Ef jH se (by simp [Value.cells, Value.oneCell']) rfl (by omega) (by rw [Qaf, cJ iY]; show m * 6 + (its.length - m) * 6 ≤ _; omega)) ?_
 rintro _ F ⟨u, s, rfl, d⟩
 obtain rfl := d.symm
 replace s : u.length = (its.length - m) * 6 := s
 have t : d7 (l.flatMap bM ++ e) (m * 6) u = (jY p its).flatMap bM ++ (u ++ e) := by
  rw [su _ _ _ (by rw [Qaf, cJ iY]; omega), D6 iY l m e (by omega), q, show m * 6 + u.length = l.length * 6 by omega, xd iY l l.length e (Qam _)]
  simp
 rw [t]
 refine aw ?_
 refine aa (oL jH fg rfl rfl rfl (by omega)) ?_
 refine ac ?_
 rw [A]
 exact ⟨_, ⟨_, _, rfl, rfl⟩, fk (by omega) L (by rw [cJ iY, A]) (by rw [← M]; simp only [Qaf, cJ iY, A, s]; omega)⟩
def i64 (r : Int) : Prop := -9223372036854775808 ≤ r ∧ r < 9223372036854775808
theorem Ku r : ((BitVec.ofInt 64 r).toNat) = r % 18446744073709551616 := by
 rw [BitVec.toNat_ofInt]; omega
theorem Kv n : n &&& 2 = 2 * (n / 2 % 2) := by
 apply Nat.eq_of_testBit_eq
 intro i
 rw [Nat.testBit_and, show (2 : Nat) = 2 ^ 1 from rfl, Nat.testBit_two_pow, Nat.testBit_two_pow_mul]
 by_cases h : i = 1
 grind
 grind [QcE, Qce, Qcu, Nat.testBit_lt_two_pow]
theorem a1t {r} (h : i64 r) : e9 .i64 r 2 = 2 * (r / 2 % 2) := by
 have a := Ku r
 show IntKind.wrap .i64 ((BitVec.ofInt 64 r &&& BitVec.ofInt 64 2).toNat : Int) = _
 rw [BitVec.toNat_and, show (BitVec.ofInt 64 2).toNat = 2 from rfl, Kv, co (by omega)]
 push_cast
 omega
theorem a1u {r} (h : i64 r) : rk .i64 r 2 = r - 2 * (r / 2 % 2) := by
 have d := Ku r
 generalize f : BitVec.ofInt 64 r = x at d
 have e : (x &&& ~~~ BitVec.ofInt 64 2).toNat = x.toNat - (x.toNat &&& 2) := by
  have a : (x &&& ~~~ BitVec.ofInt 64 2) &&& (x &&& BitVec.ofInt 64 2) = 0#64 := by
   ext i hi
   simp only [BitVec.getElem_and, BitVec.getElem_not, BitVec.getElem_zero]
   cases x[i] <;> cases (BitVec.ofInt 64 2)[i] <;> rfl
  have b : (x &&& ~~~ BitVec.ofInt 64 2) + (x &&& BitVec.ofInt 64 2) = x := by
   rw [BitVec.add_eq_or_of_and_eq_zero _ _ a]
   ext i hi
   simp only [BitVec.getElem_or, BitVec.getElem_and, BitVec.getElem_not]
   cases x[i] <;> cases (BitVec.ofInt 64 2)[i] <;> rfl
  have c := Qai BitVec.toNat b
  rw [BitVec.toNat_add_of_and_eq_zero a, BitVec.toNat_and x (BitVec.ofInt 64 2), show (BitVec.ofInt 64 2).toNat = 2 from rfl] at c
  omega
 show IntKind.wrap .i64 ((BitVec.ofInt 64 r &&& ~~~ BitVec.ofInt 64 2).toNat : Int) = _
 rw [f, e, Kv]
 have g := x.isLt
 obtain ⟨b, c⟩ := h
 simp only [IntKind.wrap, IntKind.bits, IntKind.signed]
 simp
 omega
def wB (r : Int) : Bool := decide (r / 2 % 2 = 1)
theorem B9 {r} (h : i64 r) : (e9 .i64 r 2 ≠ 0) ↔ wB r = true := by rw [a1t h, wB, Qak]; omega
theorem Kw {r} (h : i64 r) : rk .i64 r 2 = if wB r then r - 2 else r := by
 grind [a1u, wB]
def hit (page : Int) (x : It) : Bool := decide (x.ep = page) && wB x.er
def jE (page : Int) (x : It) : It := if hit page x then { x with er := x.er - 2 } else x
theorem Kx page x : (jE page x).key = x.key := by unfold jE; split <;> rfl
theorem yj page x : (jE page x).u = x.u := by unfold jE; split <;> rfl
theorem a1v {page x} (h : i64 x.er) : i64 (jE page x).er := by
 unfold jE; split
 rename_i a
 simp only [hit, wB, Qao, Qak] at a
 obtain ⟨b, c⟩ := h
 refine ⟨?_, ?_⟩
 grind
 grind
 exact h
theorem a1w (a : List It) sp i r (b : i < a.length) : (a.flatMap bM ++ sp).set (i * 6 + 4) (iQ r) = (a.set i { a.getD i default with er := r }).flatMap bM ++ sp :=
  qd iY a i 4 _ _ sp b (by decide) (by simp [List.getD, b, bM])
structure NarI (page : Int) (its l : List It) (i n : Nat) : Prop where
  len : l.length = its.length
  il : i ≤ its.length
  front : l.take i = (its.take i).map (jE page)
  back : ∀ k, i ≤ k → l.getD k default = its.getD k default
  cnt : n = ((its.take i).filter (hit page)).length
theorem NarI.step {page its l i n} (h : NarI page its l i n) (a : i < its.length) : NarI page its (l.set i (jE page (l.getD i default))) (i + 1) (n + if hit page (l.getD i default) then 1 else 0) := by
 have d := h.len
 have b := h.back i (Qam _)
 have c : its.getD i default = its[i] := by grind
 refine ⟨by rw [Qap]; exact d, by omega, ?_, fun k f => ?_, ?_⟩
 rw [Qan (by rw [Qap]; omega), List.getElem_set_self, List.take_set_of_le (Qam _), h.front, Qan a, QaH, b, c]; rfl
 rw [← h.back k (by omega)]
 simp only [Qas]
 rw [QaW (by omega)]
 rw [Qan a, QbG, Qaf, ← h.cnt, b, c]
 cases e : hit page its[i] <;> simp [e]
theorem NarI.skip {page its l i n} (h : NarI page its l i n) (a : i < its.length) (b : hit page (l.getD i default) = false) : NarI page its l (i + 1) n := by
 have := h.step a
 rw [jE, b, Qaa (by decide), Qaa (by decide), QbN] at this
 have c : l.set i (l.getD i default) = l := by
  have d : i < l.length := by rw [h.len]; exact a
  rw [show l.getD i default = l[i] by simp [List.getD, d], QbV]
 rwa [c] at this
theorem NarI.hits {page its l i n} (h : NarI page its l i n) (a : i < its.length) (b : hit page (l.getD i default) = true) : NarI page its (l.set i { l.getD i default with er := (l.getD i default).er - 2 }) (i + 1) (n + 1) := by
 have := h.step a
 rw [jE, b, Qad rfl, Qad rfl] at this
 exact this
def nrN (page : Int) (L : List It) : Nat := (L.filter (hit page)).length
theorem Ky {l f} (a : ∀ x, (f x).u = x.u) {i} (b : i < l.length) : us (l.map f) i = us l i := by
 grind [us_eq]
theorem Rep.nar {its L now} (h : Rep its now L) page : Rep (its.map (jE page)) now (L.map (jE page)) := by
 refine ⟨h.perm.map _, fun c d f => ?_, ?_, fun x g => ?_, ?_⟩
 rw [Qax] at d
 rw [Ky (yj page) (by omega), Ky (yj page) d]
 exact h.heap c d f
 rw [List.pairwise_map]
 exact h.sort.imp fun {a b} e => by rw [yj, yj]; exact e
 obtain ⟨y, i, rfl⟩ := Qbd.1 g
 rw [yj]; exact h.le y i
 rw [List.map_map, show It.key ∘ jE page = It.key from funext fun x => Kx page x]
 exact h.keys
theorem a1y b its rm nw page (B : its.length < 1000) (t : ∀ x ∈ its, i64 x.er) : sQ W0 424 [pQ b, iQ page] (aU b (its, [rm, nw, .bool true]) :: R) (iQ (nrN page its)) (aU b (its.map (jE page), [rm, nw, .bool true]) :: R) := by
 refine am func424 ntmps424 ?_
 refine ah (ap zA (w8 b its rm nw)) ?_
 refine AW (b := b) fun C D => ?_
 refine aw ?_
 refine fM (fun X : List It × Nat × Nat => NarI page its X.1 X.2.1 X.2.2) (fun X => [(0, pQ b), (1, iQ page), (5, iQ X.2.2), (15, iQ (its.length : Nat)), (16, iQ X.2.1)]) (fun X => aU b (X.1, [rm, nw, .bool true]) :: R) (fun X => its.length - X.2.1) (its, 0, 0) ?_ ?_ ?_ ?_
 exact ⟨rfl, QaF _, by simp, fun _ _ => rfl, by simp⟩
 · repeat (first | exact bK | refine bc rfl ?_)
 exact rQ rfl
 intro ⟨l, i, n⟩ hD
 dsimp only at hD ⊢
 have E := hD.len
 have u := hD.il
 have v : n ≤ its.length := by
  rw [hD.cnt]
  exact Qba (QaM _ _) (by grind)
 refine aw ?_
 refine aA rfl (fun w => ?_) fun w => ?_
 have a : i < l.length := by omega
 have d : i64 (l.getD i default).er := by
  rw [hD.back i (Qam _)]
  have h : i < its.length := by omega
  have := t _ (QaG h)
  rwa [show its.getD i default = its[i] by simp [List.getD, h]]
 refine EG (b := b) (w7 a) fun g c j F r s => ?_
 refine au 2 ?_
 refine cF (fun Z : List It × Nat => NarI page its Z.1 (i + 1) Z.2) (fun Z => [(0, pQ b), (1, iQ page), (5, iQ Z.2), (15, iQ (its.length : Nat)), (16, iQ i)]) (fun Z => aU b (Z.1, [rm, nw, .bool true]) :: R) ?_ ?_
 refine au 15 ?_
 refine aa (bJ a) ?_
 refine aa (aE (aI ((y7 l j i 2 a (by decide)).trans rfl))) ?_
 refine bO (fun k => ?_) fun k => ?_
 refine aa (aE (aI ((y7 l j i 4 a (by decide)).trans rfl))) ?_
 refine aa (eH rfl rfl rfl) ?_
 refine ai (fun y => ?_) fun y => ?_
 refine aa (aE (aI ((y7 l j i 4 a (by decide)).trans rfl))) ?_
 refine aa (zJ rfl rfl (by rw [Kw d, Qad ((B9 d).1 (by omega))] : rk .i64 (l.getD i default).er 2 = (l.getD i default).er - 2)) ?_
 refine ar (dq (by have := pN l j i a; omega) (a1w l j i ((l.getD i default).er - 2) a)) ?_
 refine aa (dU (n + 1)) ?_
 refine bu (l.set i { l.getD i default with er := (l.getD i default).er - 2 }, n + 1) ?_ (he := ?_)
 have m := (B9 d).1 (by omega)
 exact hD.hits (by omega) (by simp only [hit, Qao, Qak]; exact ⟨by omega, m⟩)
 exact sZ (b := b) rfl (by rw [Qap]) (by omega) r (by rw [← s]; simp [cJ iY])
 refine bu (l, n) ?_ (he := ?_)
 refine hD.skip (by omega) ?_
 first
   | (have e : ¬ (l.getD i default).ep = page := by omega
      rw [hit, Qal e]; rfl)
   | (have m : ¬ wB (l.getD i default).er = true := fun q => absurd ((B9 d).2 q) (by omega)
      have f : wB (l.getD i default).er = false := by simpa using m
      rw [hit, f, QcU])
 exact sZ (b := b) rfl rfl (by omega) r s
 refine bu (l, n) ?_ (he := ?_)
 refine hD.skip (by omega) ?_
 first
   | (have e : ¬ (l.getD i default).ep = page := by omega
      rw [hit, Qal e]; rfl)
   | (have m : ¬ wB (l.getD i default).er = true := fun q => absurd ((B9 d).2 q) (by omega)
      have f : wB (l.getD i default).er = false := by simpa using m
      rw [hit, f, QcU])
 exact sZ (b := b) rfl rfl (by omega) r s
 intro ⟨z, A⟩ hD2
 refine aw ?_
 refine aa bY ?_
 refine bR (z, i + 1, A) ?_ (hμ := ?_)
 exact hD2
 show its.length - (i + 1) < its.length - i; omega
 refine aw ?_
 refine ac ?_
 obtain rfl : i = its.length := by omega
 have o := hD.front
 have p := hD.cnt
 rw [QaU (by omega), QaU (Qam _)] at o
 rw [QaU (Qam _)] at p
 rw [p, o]
 exact ao
theorem Rep.keep {its its' L now p} (h : Rep its now L) (a : its'.Perm (jY p its)) (b : Heap its' its'.length) : Rep its' now (jY p L) :=
  ⟨a.trans (h.perm.filter _), b, h.sort.filter _, fun x c => h.le x (QaD.1 c).1, QcH (QcD _ QbA) h.keys⟩
theorem a1z p l : (jY p l).length ≤ l.length := QaM _ _
theorem a1A b its tl f cs C p (i : PF W0 f cs C p) (g : its.length < 1000) : sP W0 432 [pQ b, .func (.func f) #[] cs.toArray] (aU b (its, tl) :: kH 0 C :: R) (fun v B => ∃ l, v = iQ (its.length - (jY p its).length : Nat) ∧ B = aU b (l, tl) :: kH 0 C :: R ∧ l.Perm (jY p its) ∧ Heap l l.length) := by
 have j := a1z p its
 refine am func432 ntmps432 ?_
 refine ah (ap v6 (t2 b its tl)) ?_
 refine AW (b := b) fun a c => ?_
 refine m9 (E := 282) (sz := 6) (a := a) (n := its.length) (c := c) bM its iY (by decide) rfl (fun k => ?_)
 refine aw ?_
 refine aD rfl (aC call460 (a1o its a c g k)) ?_
 rintro _ h ⟨m, o, rfl, d⟩
 obtain rfl := d.symm
 refine aw ?_
 refine aD rfl (cq call459 (a1s its m o f cs C p i g)) ?_
 rintro _ h ⟨s, t, rfl, d⟩
 obtain rfl := d.symm
 refine aw ?_
 refine ar dX ?_
 refine eD (B := aU b (jY p its, tl) :: kH 0 C :: R) (rQ rfl) ?_
 refine aw ?_
 refine aD rfl (ap call461 (a1m b (jY p its) tl (by omega))) ?_
 rintro _ h ⟨l, rfl, d, e, q⟩
 obtain rfl := d.symm
 have r := e.length_eq
 refine aw ?_
 refine ah (ap v6 (t2 b l tl)) ?_
 refine aa (nU (its.length - (jY p its).length)) ?_
 refine ac ?_
 exact ⟨_, ⟨l, rfl, rfl, e, q⟩, IO⟩
theorem a1B W0 : PF W0 433 [] (cv []) (fun _ => true) := ⟨call433, fun x R => by
 refine am func433 ntmps433 ?_
 refine bz fun a => ?_
 exact ac ao
 ⟩
theorem Ba l : jY (fun _ => true) l = [] := by simp [jY]
theorem a1C b its rm nw now L (e : Rep its now L) (g : its.length < 1000) : sP W0 400 [pQ b] (aU b (its, [rm, nw, .bool true]) :: R) (fun v B => v = iQ L.length ∧ ∃ a, B = aU b (a, [rm, nw, .bool true]) :: R ∧ Rep a now []) := by
 have c := e.length
 refine am func400 ntmps400 ?_
 refine ah (ap zA (w8 b its rm nw)) ?_
 refine eD (B := aU b (its, [rm, nw, .bool true]) :: kH 0 (cv []) :: R) inferInstance ?_
 refine aw ?_
 refine aD rfl (cq call432 (a1A b its _ 433 [] _ _ (a1B W0) g)) ?_
 rintro _ j ⟨l, rfl, d, h, i⟩
 obtain rfl := d.symm
 rw [Ba] at h
 rw [Ba, c]
 refine aw ?_
 refine ac ?_
 have f := e.keep (p := fun _ => true) (by grind [Ba]) i
 rw [Ba] at f
 exact ⟨_, ⟨rfl, l, rfl, f⟩, IO⟩
structure Ln where
  k : dk
  e : jD
  rt : Int
  lf : Int
instance : Inhabited Ln := ⟨⟨(0, 0), (0, 0, 0), 0, 0⟩⟩
@[reducible] def dh (x : Ln) : List Value := [.int .i64 x.k.1, .int .i64 x.k.2, .int .i64 x.e.1, .int .i64 x.e.2.1, .int .i64 x.e.2.2, .int .i64 x.rt, .int .i64 x.lf]
theorem nN x : (dh x).length = 7 := rfl
theorem Kz x : fi (dh x) = true := rfl
def Ln.thr (x : Ln) (p : Int) : Bool := decide (x.rt = p) || decide (x.lf = p)
theorem t8 {x : Ln} {p} : x.thr p = true ↔ x.rt = p ∨ x.lf = p := by simp [Ln.thr]
def gQ (L : List Ln) (p : Int) : Bool := L.any fun x => x.thr p
theorem uF {L p} : gQ L p = true ↔ ∃ x ∈ L, x.thr p = true := by simp [gQ]
def io (r : Int) : Int := if wB r then r - 2 else r
theorem Bb r : wB (io r) = false := by
 grind [io, wB]
def Ln.nar (x : Ln) : Ln := { x with e := (x.e.1, x.e.2.1, io x.e.2.2) }
theorem KA {x : Ln} (h : wB x.e.2.2 = false) : x.nar = x := by
 obtain ⟨k, ⟨a, b, c⟩, r, l⟩ := x
 simp only [Ln.nar, io] at h ⊢
 rw [h]; rfl
def mo (L : List Ln) (r l : Int) : List Int := (if r = l then [r] else [min r l, max r l]).filter fun p => !gQ L p
theorem KB {L r l p} : p ∈ mo L r l ↔ (p = r ∨ p = l) ∧ gQ L p = false := by
 grind [mo]
def dM (r l : Int) (x : Ln) : Ln := if x.e.1 = r ∨ x.e.1 = l then x.nar else x
def wc (L : List Ln) : List Ln := match L.getLast? with
 | none => []
 | some y => L.dropLast ++ [if gQ L y.e.1 then y.nar else y]
def yk (k : dk) (e : jD) (r l : Int) (L : List Ln) : List Ln := L.filter (fun x => decide (x.k ≠ k)) ++ [⟨k, e, r, l⟩]
def yl (L : List Ln) : List Ln := if 32 < L.length then L.tail else L
def mp (k : dk) (e : jD) (r l : Int) (L : List Ln) : List Ln := wc ((yl (yk k e r l L)).map (dM r l))
def kU (k : dk) (L : List Ln) : Option Ln := L.find? fun x => decide (x.k = k)
theorem KC L y : wc (L ++ [y]) = L ++ [if gQ (L ++ [y]) y.e.1 then y.nar else y] := by
 grind [wc]
theorem a1D (x : Ln) p : x.nar.thr p = x.thr p := rfl
theorem KD r l x p : (dM r l x).thr p = x.thr p := by unfold dM; split <;> rfl
theorem KF r l x : (dM r l x).k = x.k := by unfold dM; split <;> rfl
theorem KG r l x : (dM r l x).e.1 = x.e.1 := by unfold dM; split <;> rfl
theorem KH {f} (h : ∀ x p, (f x).thr p = x.thr p) L p : gQ (L.map f) p = gQ L p := by
 grind [gQ]
theorem KI A B p : gQ (A ++ B) p = (gQ A p || gQ B p) := by simp [gQ]
def kV (k : dk) (L : List Ln) : List Ln := if 31 < (L.filter fun x => decide (x.k ≠ k)).length then (L.filter fun x => decide (x.k ≠ k)).tail else L.filter fun x => decide (x.k ≠ k)
theorem KJ k L : (kV k L).Sublist (L.filter fun x => decide (x.k ≠ k)) := by
 grind [kV]
theorem ET {k L x} (h : x ∈ kV k L) : x ∈ L ∧ x.k ≠ k := by
 grind [KJ]
theorem KL {k L} (h : L.length ≤ 32) : (kV k L).length ≤ 31 := by
 grind [QaM, kV]
def lu (k : dk) (e : jD) (r l : Int) (L : List Ln) : Ln :=
  if gQ (kV k L) e.1 || (⟨k, e, r, l⟩ : Ln).thr e.1 then (⟨k, e, r, l⟩ : Ln).nar else ⟨k, e, r, l⟩
theorem a1E (x : Ln) : x.nar.nar = x.nar := KA (Bb _)
theorem EU k e r l L (h : L.length ≤ 32) : mp k e r l L = (kV k L).map (dM r l) ++ [lu k e r l L] := by
 have a : yl (yk k e r l L) = kV k L ++ [⟨k, e, r, l⟩] := by
  grind [yl, yk, kV]
 unfold mp
 rw [a, QaH, QcI, KC]
 congr 1
 rw [← QcI (f := dM r l), ← QaH, KH (KD r l), KI, KG]
 have b : gQ [(⟨k, e, r, l⟩ : Ln)] e.1 = (⟨k, e, r, l⟩ : Ln).thr e.1 := by simp [gQ]
 rw [b]
 unfold lu
 by_cases q : e.1 = r ∨ e.1 = l
 have c : dM r l ⟨k, e, r, l⟩ = (⟨k, e, r, l⟩ : Ln).nar := Qad q
 have d : (⟨k, e, r, l⟩ : Ln).thr e.1 = true := by
  grind [t8]
 rw [c, d, Qda, Qad rfl, Qad rfl, a1E]
 grind [dM]
theorem Bc k e r l L : (lu k e r l L).k = k := by unfold lu; split <;> rfl
theorem EV k e r l L : lu k e r l L = ⟨k, e, r, l⟩ ∨ lu k e r l L = (⟨k, e, r, l⟩ : Ln).nar := by unfold lu; split <;> simp
structure TI (L : List Ln) (TL : List It) : Prop where
  keys : (L.map Ln.k).Nodup
  len : L.length ≤ 32
  nowr : ∀ x ∈ L, wB x.e.2.2 = true → gQ L x.e.1 = false
  sub : ∀ y ∈ TL, ∃ x ∈ L, x.k = y.key ∧ x.e = y.ent
theorem TI.nil : TI [] [] := ⟨QcZ, QaF _, fun x a => by simp at a, fun y b => by simp at b⟩
theorem Be {k L x} (h : kU k L = some x) : x ∈ L ∧ x.k = k := ⟨Qcq h, by simpa using List.find?_some h⟩
theorem KM {L : List Ln} (h : (L.map Ln.k).Nodup) {x y} (b : x ∈ L) (d : y ∈ L) (e : x.k = y.k) : x = y := by
 induction L with
 | nil => simp at b
 | cons a L f =>
  simp only [QaL, Qbx] at h
  rcases QaO.1 b with rfl | c
  grind
  grind
theorem EW {L} (h : (L.map Ln.k).Nodup) {x} (a : x ∈ L) : kU x.k L = some x := by
 cases b : kU x.k L with
 | none =>
  have := QbX.1 b x a
  simp at this
 | some z =>
  obtain ⟨c, d⟩ := Be b
  rw [KM h c a d]
theorem TI.drop {L TL TL'} (h : TI L TL) (f : Ln → Bool) (d : ∀ y ∈ TL', y ∈ TL ∧ ∀ x ∈ L, f x = true → y.key ≠ x.k) : TI (L.filter fun x => !f x) TL' := by
 refine ⟨QcH (QcD _ QbA) h.keys, Qba (QaM _ _) h.len, fun x a e => ?_, fun y g => ?_⟩
 have a := (QaD.1 a).1
 have := h.nowr x a e
 rw [← Qau, uF] at this ⊢
 rintro ⟨z, i, b⟩
 exact this ⟨z, (QaD.1 i).1, b⟩
 obtain ⟨j, l⟩ := d y g
 obtain ⟨x, a, c, m⟩ := h.sub y j
 refine ⟨x, QaD.2 ⟨a, ?_⟩, c, m⟩
 cases n : f x with
 | false => rfl
 | true => exact absurd c.symm (l x a n)
theorem EX {k x y L} : y ∈ lS k x L ↔ (y ∈ L ∧ y.key ≠ k) ∨ y = x := by simp [lS, t6]
theorem TI.getT {L TL} (h : TI L TL) now k : TI L (t7 now k TL) := by
 refine ⟨h.keys, h.len, h.nowr, fun y a => ?_⟩
 unfold t7 at a
 cases b : nM k TL with
 | none => rw [b] at a; exact h.sub y a
 | some z =>
  rw [b] at a
  obtain ⟨c, d⟩ := B6 b
  rcases EX.1 a with ⟨q, _⟩ | rfl
  exact h.sub y q
  obtain ⟨x, e, f, g⟩ := h.sub z c
  exact ⟨x, e, by rw [f, d]; rfl, by rw [g]; rfl⟩
theorem KN {room now k e L y} (h : y ∈ om room now k e L) : (y ∈ L ∧ y.key ≠ k) ∨ y = mn k e (now + 1 : Nat) := by
 unfold om at h
 split at h
 exact EX.1 (List.mem_of_mem_tail h)
 exact EX.1 h
theorem TI.putT {L TL} (h : TI L TL) room now {x} (a : x ∈ L) : TI L (om room now x.k x.e TL) := by
 refine ⟨h.keys, h.len, h.nowr, fun y b => ?_⟩
 rcases KN b with ⟨q, _⟩ | rfl
 exact h.sub y q
 exact ⟨x, a, rfl, rfl⟩
def kW (l : List Int) (TL : List It) : List It := l.foldl (fun A p => A.map (jE p)) TL
theorem a1F p y : (jE p y).ent = if y.ep = p then (y.ent.1, y.ent.2.1, io y.ent.2.2) else y.ent := by
 unfold jE hit io
 by_cases q : y.ep = p
 rw [Qah q, Qbb, Qad q]
 show _ = (y.ep, y.ef, if wB y.er = true then y.er - 2 else y.er)
 cases a : wB y.er <;> rfl
 grind
theorem a1G {l} : ∀ {TL : List It} {y : It}, y ∈ kW l TL → ∃ z ∈ TL, y.key = z.key ∧ y.ent = if z.ep ∈ l then (z.ent.1, z.ent.2.1, io z.ent.2.2) else z.ent := by
 induction l with
 | nil => intro TL y h; exact ⟨y, h, rfl, by simp⟩
 | cons p l b =>
  intro TL y h
  obtain ⟨z, c, d, e⟩ := b (TL := TL.map (jE p)) h
  obtain ⟨w, f, rfl⟩ := Qbd.1 c
  refine ⟨w, f, by rw [d, Kx], ?_⟩
  have a : (jE p w).ep = w.ep := by grind [jE]
  rw [e, a, a1F]
  by_cases g : w.ep = p
  grind [QaO.2, Bb, io]
  grind
theorem TI.fill {L TL} (h : TI L TL) k e r l room now :
    TI (mp k e r l L) ((om room now k (lu k e r l L).e (kW (mo L r l) TL)).filter fun y => (kU y.key (mp k e r l L)).isSome) := by
 have i := EU k e r l L h.len
 have c : ∀ x ∈ kV k L, x ∈ L ∧ x.k ≠ k := fun x d => ET d
 have w : ∀ p, gQ (mp k e r l L) p = (gQ (kV k L) p || (⟨k, e, r, l⟩ : Ln).thr p) := fun p => by
  rw [i, KI, KH (KD r l)]
  congr 1
  rcases EV k e r l L with q | q <;> rw [q] <;> simp [gQ, a1D]
 have f : ((mp k e r l L).map Ln.k).Nodup := by
  rw [i, QaH, List.map_map, show Ln.k ∘ dM r l = Ln.k from funext fun x => KF r l x, QcI, Bc]
  refine Qbp.2 ⟨QcH (QcD _ ((KJ k L).trans QbA)) h.keys, by simp, fun a K b R => ?_⟩
  obtain rfl : b = k := by grind
  obtain ⟨x, d, rfl⟩ := Qbd.1 K
  exact (c x d).2
 have m : lu k e r l L ∈ mp k e r l L := by rw [i]; simp
 refine ⟨f, ?_, fun x d g => ?_, fun y M => ?_⟩
 rw [i, Qaf, Qax, QbD]
 have := KL (k := k) h.len; omega
 rw [w]
 rw [i] at d
 rcases QaY.1 d with d | d
 obtain ⟨z, A, rfl⟩ := Qbd.1 d
 obtain ⟨B, _⟩ := c z A
 rw [KG]
 by_cases q : z.e.1 = r ∨ z.e.1 = l
 rw [dM, Qad q] at g
 rw [show z.nar.e.2.2 = io z.e.2.2 from rfl, Bb] at g; cases g
 rw [dM, Qaa q] at g
 have S := h.nowr z B g
 rw [QcT]
 refine ⟨?_, ?_⟩
 grind [uF]
 rw [← Qau, t8]
 rintro (G | G)
 grind
 grind
 grind [lu, Ln.nar, io, Bb]
 obtain ⟨C, n⟩ := QaD.1 M
 rcases KN C with ⟨q, N⟩ | rfl
 obtain ⟨z, A, T, O⟩ := a1G q
 obtain ⟨x, d, G, t⟩ := h.sub z A
 cases H : kU y.key (mp k e r l L) with
 | none => rw [H] at n; cases n
 | some P =>
  obtain ⟨j, I⟩ := Be H
  refine ⟨P, j, I, ?_⟩
  rw [i] at j
  rcases QaY.1 j with j | j
  obtain ⟨u, Q, rfl⟩ := Qbd.1 j
  obtain ⟨o, _⟩ := c u Q
  rw [KF] at I
  have D : u = x := KM h.keys o d (by grind)
  subst D
  have E : z.ep = u.e.1 := by rw [t]; rfl
  rw [O, E]
  by_cases v : u.e.1 = r ∨ u.e.1 = l
  rw [dM, Qad v]
  by_cases s : u.e.1 ∈ mo L r l
  rw [Qad s, ← t]; rfl
  rw [Qaa s]
  have J : gQ L u.e.1 = true := by
   rw [← Bool.not_eq_false]; intro F
   exact s (KB.2 ⟨v, F⟩)
  have g : wB u.e.2.2 = false := by
   rw [← Qau]; intro F
   rw [h.nowr u o F] at J; cases J
  rw [KA g, t]
  rw [dM, Qaa v, Qaa (fun s => v (KB.1 s).1), t]
  grind [lu, Bc]
 exact ⟨_, m, Bc k e r l L, rfl⟩
def bG (b : Nat) (L : List Ln) : HP := chk (fun C => ∃ a c, C = [pt b (ag [.slice a L.length c, .bool true] 276), osl 278 7 (.slice a L.length c) (L.flatMap dh)])
section
variable {P : Program} {W0 : World} {R A : List HP} {b : Nat} {L : List Ln} {f : FuncId} {args : List Value} {Post : Value → List HP → Prop}
theorem t9 {a c n R1 R2 B} [d : Tk pt b A (ag [.slice a n c, .bool true] 276) R1] [e : Tk (osl 278 7) (.slice a n c) R1 (L.flatMap dh) R2] (f : n = L.length) [k : Ent R2 B] : Ent A (bG b L :: B) := by
 subst f
 exact (Ent.ofPerm (d.perm.trans (e.perm.cons _))).trans ((Ent.cons (Ent.cons k)).trans (fH (R := B) (C := [_, _]) ⟨a, c, rfl⟩))
theorem we {N K e} [f : Tk bG b A L R] (h : ∀ a c, av W0 N K e (pt b (ag [.slice a L.length c, .bool true] 276) :: osl 278 7 (.slice a L.length c) (L.flatMap dh) :: R)) : av W0 N K e A :=
  fT (r := bG) (b := b) (nv fun C d => by obtain ⟨a, c, rfl⟩ := d; exact h a c)
theorem a1H {N K e} [o : Tk bG b A L R] (j : L ≠ []) (h : ∀ g c d, L.length ≤ c → c ≤ maxLen → (L.flatMap dh ++ d).length = c * 7 → av W0 N K e (pt b (ag [.slice (some ⟨g, 0, none⟩) L.length c, .bool true] 276) :: pt g (ag (L.flatMap dh ++ d) 278) :: R)) : av W0 N K e A :=
  we (b := b) fun a c => pX (List.Perm.swap _ _ _) (km (fun i f => by
      have := cJ nN L
      rw [f] at this
      exact absurd (QaE (by grind)) j)
    (fun g n k d i f l p m => by
      cases i
      exact pX (List.Perm.swap _ _ _) (h g _ d f l m)))
theorem KO {g c n xs sp R1 R2 B} [a : Tk pt b A (ag [.slice (some ⟨g, 0, none⟩) n c, .bool true] 276) R1] [l : Tk pt g R1 (ag (xs ++ sp) 278) R2] (d : xs = L.flatMap dh) (f : n = L.length) (h : n ≤ c) (i : c ≤ maxLen) (j : (xs ++ sp).length = c * 7) [k : Ent R2 B] : Ent A (bG b L :: B) := by
 subst f
 subst d
 have e : Ent R1 (osl 278 7 (.slice (some ⟨g, 0, none⟩) L.length c) (L.flatMap dh) :: B) := fk h i (cJ nN L) j
 exact (Ent.ofPerm a.perm).trans ((Ent.cons e).trans (fH (R := B) (C := [_, _]) ⟨_, c, rfl⟩))
theorem a1I [g : Tk bG b A L R] : kf (aQ W0 A) b 1 (.bool true) := fun w (e : Own W0 w A) => by
 obtain ⟨C, ⟨a, c, rfl⟩, d⟩ := (e.tk (r := bG) (b := b)).chk
 have f : kf (aQ W0 (pt b (ag [.slice a L.length c, .bool true] 276) :: (osl 278 7 (.slice a L.length c) (L.flatMap dh) :: R))) b 1 (.bool true) := aI rfl
 exact f w d
end
theorem uG b L : sQ W0 151 [pQ b] (bG b L :: R) (.bool false) (bG b L :: R) := by
 refine am func151 ntmps151 ?_
 refine cy rfl rfl rfl (fun a => ?_) fun a => ?_
 cases a
 refine aw ?_
 refine aa (aE a1I) ?_
 exact ac ao
def uH (p : Int) : Bool := decide (0 ≤ p ∧ p < 8)
theorem KP p : sQ W0 442 [iQ p] R (.bool (uH p)) R := by
 refine am func442 ntmps442 ?_
 refine bO (fun a => ?_) fun a => ?_
 refine ac ?_
 refine aG ?_
 refine Qai Value.bool ?_
 rw [Qag, uH, Qak]
 first
   | (rw [Qak]; constructor <;> (intro q; omega))
   | (constructor
      · intro q; first | omega | (cases q)
      intro q; omega)
 refine ac ?_
 refine aG ?_
 refine Qai Value.bool ?_
 rw [Qag, uH, Qak]
 first
   | (rw [Qak]; constructor <;> (intro q; omega))
   | (constructor
      · intro q; first | omega | (cases q)
      intro q; omega)
theorem Bf g o x (b : bC (aQ W0 R) g o (dh x)) p : sQ W0 236 [.pointer (some ⟨g, o, none⟩), iQ p] R (.bool (x.thr p)) R := by
 refine am func236 ntmps236 ?_
 refine aa (aE (bC.weak b 5 _ rfl)) ?_
 refine cz (fun a => ?_) fun a => ?_
 refine ac ?_
 refine aG ?_
 refine Qai Value.bool ?_
 rw [Qag, t8]
 first
   | (simp; omega)
   | (simp only [QaZ, true_iff]; omega)
   | simp_all
 refine aa (aE (bC.weak b 6 _ rfl)) ?_
 refine ac ?_
 refine aG ?_
 refine Qai Value.bool ?_
 rw [Qag, t8]
 first
   | (simp; omega)
   | (simp only [QaZ, true_iff]; omega)
   | simp_all
theorem EY g o vs r (hr : i64 r) (hv : vs[o + 4]? = some (iQ r)) : sQ W0 468 [.pointer (some ⟨g, o, none⟩)] (pt g (ag vs 278) :: R) (.tuple #[]) (pt g (ag (vs.set (o + 4) (iQ (io r))) 278) :: R) := by
 refine am func468 ntmps468 ?_
 refine aa (aE (aI hv)) ?_
 refine aa (zJ rfl rfl (Kw hr : rk .i64 r 2 = io r)) ?_
 refine ar (dq (by grind) (rfl : vs.set (o + 4) (iQ (if wB r then r - 2 else r)) = vs.set (o + 4) (iQ (io r)))) ?_
 refine bX (.inr rfl) .nil ?_
 rw [show io r = if wB r then r - 2 else r from rfl]
 exact ao
theorem a1J b L (z : L.length ≤ 1000) p : sQ W0 467 [pQ b, iQ p] (bG b L :: R) (.bool (gQ L p)) (bG b L :: R) := by
 refine am func467 ntmps467 ?_
 refine ah (ap v7 (uG b L)) ?_
 refine we (b := b) fun a c => ?_
 refine aw ?_
 refine d4 (fun i : Nat => i ≤ L.length ∧ ∀ j (f : j < L.length), j < i → L[j].thr p = false) (fun i => [(0, pQ b), (1, iQ p), (12, iQ (L.length : Nat)), (13, iQ i)]) (fun _ => pt b (ag [.slice a L.length c, .bool true] 276) :: osl 278 7 (.slice a L.length c) (L.flatMap dh) :: R) (fun i => L.length - i) 0 ?_ ?_
 grind
 intro i ⟨A, r⟩
 refine aw ?_
 refine aA rfl (fun s => ?_) fun s => ?_
 refine au 11 ?_
 have d : i < L.length := by omega
 refine m9 (E := 278) (sz := 7) (a := a) (c := c) (n := L.length) dh L nN (by decide) rfl (fun t => ?_)
 obtain ⟨g, o, k, l⟩ := t.at_ d
 obtain ⟨x, h⟩ : ∃ x, L[i] = x := ⟨_, rfl⟩
 have e : x.thr p = true → gQ L p = true := fun q => uF.2 ⟨x, by rw [← h]; exact QaG d, q⟩
 have u : x.thr p = false → ∀ j (f : j < L.length), j < i + 1 → L[j].thr p = false := fun q j f v => by
  rcases QaC j i with w | w
  grind
  grind
 rw [h] at l
 refine aw ?_
 refine aa (eB nq rf rfl k rfl rfl d (by first | exact Qac _ | rfl)) ?_
 refine ah (aC GV (Bf g (o + i * 7) x l p)) ?_
 refine ai (fun m => ?_) fun m => ?_
 refine ac ?_
 rw [e m]
 exact ⟨_, ⟨rfl, rfl⟩, t9 (b := b) rfl⟩
 refine aa bY ?_
 refine bR (i + 1) ?_
 grind
 refine aw ?_
 refine ac ?_
 have y : gQ L p = false := by
  rw [← Qau, uF]
  rintro ⟨x, h, q⟩
  obtain ⟨j, f, rfl⟩ := QbP h
  rw [r j f (by omega)] at q; cases q
 rw [y]
 exact ⟨_, ⟨rfl, rfl⟩, t9 (b := b) rfl⟩
theorem ym {S b off us ws vs} (h : bC S b off vs) (e : vs = us ++ ws) : bC S b off us := fun i v a => h i v (by grind)
structure PLn (W0 : World) (fn : FuncId) (cs : List Value) (C : HP) (p : Ln → Bool) : Prop where
  call : ∀ args w, (callFunc fn args).run Tryz.prog w = .ok (.enter fn args) w
  spec : ∀ x b R, bE Tryz.prog W0 fn ([] ++ [.pointer (some ⟨b, 0, none⟩)] ++ cs) (pt b (ag (dh x) 278) :: kH 0 C :: R) (fun v B => v = .bool (p x) ∧ B = pt b (ag (dh x) 278) :: kH 0 C :: R)
theorem a1K W0 bk (k : dk) : PLn W0 444 [pQ bk] (cv [pt bk (ag (gY k) 51)]) (fun x => decide (x.k = k)) := ⟨call444, fun x b R => by
 refine lK (qe (r1 := kH) (b1 := 0)) (pD ?_)
 simp only [Qay, Qaw]
 refine am func444 ntmps444 ?_
 refine bq [b, bk] 8 fun a => ?_
 refine aj 0 4 a ?_
 refine ax 4 a (df (ym (us := gY x.k) (ws := [iQ x.e.1, iQ x.e.2.1, iQ x.e.2.2, iQ x.rt, iQ x.lf]) (jN (k := 0) rfl) rfl)) ?_
 refine aj 5 1 a ?_
 refine ax 6 a (vj Tryz.eqGuardType51 rfl rfl (tU Ce Tryz.stoodInHeld51 (li rfl di rfl rfl (lH jI) (li rfl di rfl rfl (lH jI) tT)))) ?_
 refine aj 7 1 a ?_
 refine aJ ?_
 refine ac ?_
 refine aG ?_
 refine Qai Value.bool ?_
 rw [Qag]; simp [Prod.ext_iff]
 ⟩
theorem a1L W0 bp page : PLn W0 235 [pQ bp] (cv [pt bp (ag [iQ page] 3)]) (fun x => x.thr page) := ⟨call235, fun x b R => by
 refine lK (qe (r1 := kH) (b1 := 0)) (pD ?_)
 simp only [Qay, Qaw]
 refine am func235 ntmps235 ?_
 refine ah (aC GV (Bf b 0 x ee page)) ?_
 exact ac ao
 ⟩
def n0 (page : Int) (x : Ln) : Bool := x.thr page || decide (x.e.1 = page)
theorem a1M W0 bp page : PLn W0 273 [pQ bp] (cv [pt bp (ag [iQ page] 3)]) (n0 page) := ⟨call273, fun x b R => by
 refine lK (qe (r1 := kH) (b1 := 0)) (pD ?_)
 simp only [Qay, Qaw]
 obtain ⟨q, hq⟩ : ∃ q, x.thr page = q := ⟨_, rfl⟩
 rw [show n0 page x = (q || decide (x.e.1 = page)) by rw [n0, hq]]
 refine am func273 ntmps273 ?_
 refine bq [b, bp] 14 fun a => ?_
 refine aj 0 2 a ?_
 refine cj 2 (aC GV (Bf b 0 x ee page)) ?_; clear a
 rintro _ d ⟨rfl, hB_⟩
 obtain rfl := hB_.symm
 rw [hq]
 refine ⟨aT, fun a => ?_⟩
 refine aj 3 1 a ?_
 refine mF (t := 7) rfl ?_ ?_
 intro c
 refine aj 4 10 a ?_
 refine aJ ?_
 refine ac ?_
 refine aG ?_
 refine Qai Value.bool ?_
 rw [Qag]
 simp_all
 intro c
 refine aj 4 10 a ?_
 refine aJ ?_
 refine ac ?_
 refine aG ?_
 refine Qai Value.bool ?_
 rw [Qag]
 simp_all
 ⟩
theorem a1N W0 : PLn W0 434 [] (cv []) (fun _ => true) := ⟨call434, fun x b R => by
 refine am func434 ntmps434 ?_
 exact ac ao
 ⟩
theorem KQ {α : Type} {p} {l : List α} {i x} hi (a : l[i] = x) (h : p x = true) : (l.take (i + 1)).filter p = (l.take i).filter p ++ [x] := by
 grind [Qan]
theorem KR {α : Type} {p} {l : List α} {i x} hi (a : l[i] = x) (h : ¬ p x = true) : (l.take (i + 1)).filter p = (l.take i).filter p := by
 grind [Qan]
theorem KS {α : Type} {p} {l : List α} {i} : ((l.take i).filter p).length ≤ i :=
  Qba (QaM _ _) (by grind)
@[reducible] def uI (x : Ln) : List Value := gY x.k
theorem Bg b L (hl : L.length ≤ 1000) fn cs C p (hp : PLn W0 fn cs C p) : sP W0 234 [pQ b, .func (.func fn) #[] cs.toArray] (bG b L :: kH 0 C :: R) (fun v B => ∃ a c, v = .slice a (L.filter p).length c ∧ B = osl 51 2 (.slice a (L.filter p).length c) ((L.filter p).flatMap uI) :: bG b (L.filter fun x => !p x) :: kH 0 C :: R) := by
 obtain ⟨n, hn⟩ : ∃ n : Ln → Bool, (fun x => !p x) = n := ⟨_, rfl⟩
 have hnx : ∀ x, n x = !p x := fun x => by rw [← hn]
 rw [hn]
 refine am func234 ntmps234 ?_
 refine we (b := b) fun a c => ?_
 refine aw ?_
 refine fM (fun X : Nat × (Option Addr × Nat) × Option Addr × Nat => X.1 ≤ L.length) (fun X => [(0, pQ b), (1, .func (.func fn) #[] cs.toArray), (5, .slice X.2.1.1 ((L.take X.1).filter p).length X.2.1.2), (6, .slice X.2.2.1 ((L.take X.1).filter n).length X.2.2.2), (13, iQ (L.length : Nat)), (14, iQ X.1)]) (fun X => osl 51 2 (.slice X.2.1.1 ((L.take X.1).filter p).length X.2.1.2) (((L.take X.1).filter p).flatMap uI) :: osl 278 7 (.slice X.2.2.1 ((L.take X.1).filter n).length X.2.2.2) (((L.take X.1).filter n).flatMap dh) :: pt b (ag [.slice a L.length c, .bool true] 276) :: osl 278 7 (.slice a L.length c) (L.flatMap dh) :: kH 0 C :: R) (fun X => L.length - X.1) (0, (none, 0), none, 0) ?_ ?_ ?_ ?_
 omega
 · repeat (first | exact bK | refine bc rfl ?_)
 show Ent _ (osl 51 2 (.slice none 0 0) [] :: osl 278 7 (.slice none 0 0) [] :: pt b (ag [.slice a L.length c, .bool true] 276) :: osl 278 7 (.slice a L.length c) (L.flatMap dh) :: kH 0 C :: R)
 exact eX (k := eX)
 intro ⟨i, ⟨a1, c1⟩, a2, c2⟩ hi
 dsimp only at hi ⊢
 have hlp := KS (p := p) (l := L) (i := i)
 have hln := KS (p := n) (l := L) (i := i)
 refine aw ?_
 refine aA rfl (fun c4 => ?_) fun c4 => ?_
 refine au 2 ?_
 refine cF (fun X : (Option Addr × Nat) × Option Addr × Nat => True) (fun X => [(0, pQ b), (1, .func (.func fn) #[] cs.toArray), (5, .slice X.1.1 ((L.take (i + 1)).filter p).length X.1.2), (6, .slice X.2.1 ((L.take (i + 1)).filter n).length X.2.2), (13, iQ (L.length : Nat)), (14, iQ i)]) (fun X => osl 51 2 (.slice X.1.1 ((L.take (i + 1)).filter p).length X.1.2) (((L.take (i + 1)).filter p).flatMap uI) :: osl 278 7 (.slice X.2.1 ((L.take (i + 1)).filter n).length X.2.2) (((L.take (i + 1)).filter n).flatMap dh) :: pt b (ag [.slice a L.length c, .bool true] 276) :: osl 278 7 (.slice a L.length c) (L.flatMap dh) :: kH 0 C :: R) ?_ ?_
 refine au 8 ?_
 have hi1 : i < L.length := by omega
 refine m9 (E := 278) (sz := 7) (a := a) (c := c) (n := L.length) dh L nN (by decide) rfl (fun hs => ?_)
 obtain ⟨g, o, hga, hc⟩ := hs.at_ hi1
 obtain ⟨x, hx⟩ : ∃ x, L[i] = x := ⟨_, rfl⟩
 rw [hx] at hc
 refine aw ?_
 refine aa (eB nq rf rfl hga rfl rfl hi1 (by first | exact Qac _ | rfl)) ?_
 refine aa (df hc.weak) ?_
 refine bj fun bx => ?_
 refine ar aF ?_
 refine ah (Ph (us := []) (cs := cs) rfl hp.call rfl (hp.spec x bx _)) ?_
 refine ai (fun c7 => ?_) fun c7 => ?_
 have e1 := KQ (p := p) hi1 hx c7
 have e2 := KR (p := n) hi1 hx (by grind)
 refine aa (pZ C6 rh rfl TakeL.eq rfl) ?_
 refine dt (iG Gt rh a8w rfl (fm rfl rfl i5) rfl (by decide) (by decide) (by decide)) fun bb => ?_
 rw [show ([gY x.k] : List (List Value)).flatten = gY x.k from Qav _]
 refine aD rfl (et (sz := 2) (by_ := 16) (info := Tryz.t51) Gt (by kernel_rfl) rfl rfl rfl rfl (by decide) rfl rfl ee rfl rfl (by simp only [maxLen]; omega) (by omega)) ?_
 rintro _ _ ⟨a3, c3, rfl, rfl⟩
 refine aw ?_
 refine dj ((a3, c3), a2, c2) ?_ ?_ ?_
 trivial
 · rw [e1, e2, Qaf]
   repeat (first | exact bK | refine bc rfl ?_)
 dsimp only
 rw [e1, e2, Qaf, QbD, Qbt, List.flatMap_singleton]
 exact IO
 have e1 := KR (p := p) hi1 hx c7
 have e2 := KQ (p := n) hi1 hx (by grind)
 refine dt (iG nq rf Ci rfl (fm rfl rfl i5) rfl (by decide) (by decide) (by decide)) fun bb => ?_
 rw [show ([dh x] : List (List Value)).flatten = dh x from Qav _]
 refine aD rfl (et (sz := 7) (by_ := 56) (info := Tryz.t278) nq (by kernel_rfl) rfl rfl rfl rfl (by decide) rfl rfl ee rfl (by grind [Kz]) (by simp only [maxLen]; omega) (by omega)) ?_
 rintro _ _ ⟨a3, c3, rfl, rfl⟩
 refine aw ?_
 refine dj ((a1, c1), a3, c3) ?_ ?_ ?_
 trivial
 · rw [e1, e2, Qaf]
   repeat (first | exact bK | refine bc rfl ?_)
 dsimp only
 rw [e1, e2, Qaf, QbD, Qbt, List.flatMap_singleton]
 exact IO
 intro ⟨⟨a4, c4⟩, a5, c5⟩ _
 refine aw ?_
 refine aa bY ?_
 exact bR (i + 1, (a4, c4), a5, c5) (by omega)
 refine aw ?_
 refine ar dX ?_
 refine ac ?_
 obtain rfl : i = L.length := by omega
 rw [Qby]
 exact ⟨_, ⟨a1, c1, rfl, rfl⟩, Ent.trans (B := osl 51 2 (.slice a1 (L.filter p).length c1) ((L.filter p).flatMap uI) :: pt b (ag [.slice a2 (L.filter n).length c2, .bool true] 276) :: osl 278 7 (.slice a2 (L.filter n).length c2) ((L.filter n).flatMap dh) :: kH 0 C :: R) inferInstance (Ent.cons (t9 (b := b) rfl))⟩
theorem a1O a n c : sP W0 154 [.slice a n c] R (fun v B => ∃ b, v = .func (.func 239) #[] #[pQ b] ∧ B = pt b (ag [.slice a n c] 279) :: R) := by
 refine am func154 ntmps154 ?_
 refine dt (jL rfl rfl) fun d => ?_
 refine ac ?_
 exact ⟨_, ⟨d, rfl, rfl⟩, IO⟩
theorem a1P W0 bs L c a (b : List It) (p : b.length < 1000) (C : Nat → List HP) (j : ∀ i R, i < b.length → qk Tryz.prog W0 L [.agg (bM (b.getD i default)).toArray] (C i ++ R) (fun v B => v = .bool true ∧ B = C (i + 1) ++ R)) : sQ W0 239 [.func (.yield L) #[] #[], pQ bs] (pt bs (ag [.slice a b.length c] 279) :: osl 282 6 (.slice a b.length c) (b.flatMap bM) :: C 0) (.tuple #[]) (pt bs (ag [.slice a b.length c] 279) :: osl 282 6 (.slice a b.length c) (b.flatMap bM) :: C b.length) := by
 refine am func239 ntmps239 ?_
 refine d4 (fun i : Nat => i ≤ b.length) (fun i => [(0, .func (.yield L) #[] #[]), (5, .slice a b.length c), (6, iQ (b.length : Nat)), (7, iQ i)]) (fun i => pt bs (ag [.slice a b.length c] 279) :: osl 282 6 (.slice a b.length c) (b.flatMap bM) :: C i) (fun i => b.length - i) 0 ?_ ?_
 omega
 intro i q
 refine aw ?_
 refine ai (fun k => ?_) fun k => ?_
 have d : i < b.length := by omega
 refine m9 (E := 282) (sz := 6) (a := a) (n := b.length) (c := c) bM b iY (by decide) rfl (fun l => ?_)
 obtain ⟨g, o, rfl, m⟩ := l.at_ d
 have e : b.getD i default = b[i] := by grind
 refine aw ?_
 refine aa (bJ d) ?_
 refine aa (df m) ?_
 refine bj fun r => ?_
 refine fh (fN fg rfl rfl rfl rfl rfl) ?_
 rintro _ _ rfl
 refine aL (aH (aO (aX (ae rfl (aM rfl) (ae rfl (pB nj fg rfl rfl) ?_)))))
 refine Db rfl rfl rfl (Df (QaX (l₁ := [_, _, _])) (e ▸ j i [_, _, _] d)) ?_
 rintro _ s ⟨rfl, f⟩
 obtain rfl := f.symm
 refine pX QaX ?_
 simp only [Qay, Qaw]
 refine aw ?_
 refine ai (fun h => ?_) fun h => ?_
 exact absurd rfl h
 refine aa bY ?_
 exact bR (i + 1) (by omega)
 refine bX (.inr rfl) .nil ?_
 obtain rfl : i = b.length := by omega
 exact ao
theorem a1Q {W0 A e n' L D bs c a ps asg body} {g d : List HP → Prop} (b : List It) (j : b.length < 1000) (C : Nat → List HP)
    (k : A.Perm (pt bs (ag [.slice a b.length c] 279) :: osl 282 6 (.slice a b.length c) (b.flatMap bM) :: C 0))
    (f : g (pt bs (ag [.slice a b.length c] 279) :: osl 282 6 (.slice a b.length c) (b.flatMap bM) :: C b.length))
    (l : ∀ i R, i < b.length → qk Tryz.prog W0 L [.agg (bM (b.getD i default)).toArray] (dI L ⟨e, n', ps, asg, body, .ready, none, D⟩ :: pt D (.deferred (some [])) :: (C i ++ R))
      (fun v B => v = .bool true ∧ B = dI L ⟨e, n', ps, asg, body, .ready, none, D⟩ :: pt D (.deferred (some [])) :: (C (i + 1) ++ R))) :
    bE Tryz.prog W0 239 (.func (.yield L) #[] #[] :: [pQ bs]) (dI L ⟨e, n', ps, asg, body, .ready, none, D⟩ :: pt D (.deferred (some [])) :: A)
      (fun _ B => (∃ C, B = dI L ⟨e, n', ps, asg, body, .ready, none, D⟩ :: pt D (.deferred (some [])) :: C ∧ g C) ∨ (∃ C, B = dI L ⟨e, n', ps, asg, body, .done, some .ret, D⟩ :: pt D (.deferred (some [])) :: C ∧ d C)) := by
 have h : ∀ (x y p q : HP) (Z : List HP), (x :: y :: p :: q :: Z).Perm (p :: q :: x :: y :: Z) := fun x y p q Z =>
  (((List.Perm.swap _ _ _).trans ((List.Perm.swap _ _ _).cons _)).cons _).trans ((List.Perm.swap _ _ _).trans ((List.Perm.swap _ _ _).cons _))
 refine lK (((k.cons _).cons _).trans (h _ _ _ _ _)) (ge (a1P W0 bs L c a b j (fun i => dI L ⟨e, n', ps, asg, body, .ready, none, D⟩ :: pt D (.deferred (some [])) :: C i) (fun i R m => l i R m)) ?_)
 rintro v B ⟨_, rfl⟩
 exact ⟨_, .inl ⟨_, rfl, f⟩, Ent.ofPerm (h _ _ _ _ _)⟩
def uJ (b : Nat) (l : List It) : HP := chk (fun C => ∃ a c, C = [pt b (ag [.slice a l.length c] 279), osl 282 6 (.slice a l.length c) (l.flatMap bM)])
section
variable {W0 : World} {N : FSz} {K : Act → World → Prop} {e : b0} {A R R1 R2 : List HP} {b n c : Nat} {l : List It} {a : Option Addr} {ys : List Value}
theorem KT [f : Tk uJ b A l R] (h : ∀ a c, av W0 N K e (pt b (ag [.slice a l.length c] 279) :: osl 282 6 (.slice a l.length c) (l.flatMap bM) :: R)) : av W0 N K e A :=
  fT (r := uJ) (b := b) (nv fun C d => by obtain ⟨a, c, rfl⟩ := d; exact h a c)
theorem a1R l [d : Tk pt b A (ag [.slice a n c] 279) R1] [f : Tk (osl 282 6) (.slice a n c) R1 ys R] (g : n = l.length) (h : ys = l.flatMap bM) (k : av W0 N K e (uJ b l :: R)) : av W0 N K e A := by
 subst g; subst h
 exact eD ((Ent.ofPerm (d.perm.trans (f.perm.cons _))).trans (fH (R := R) (C := [_, _]) ⟨a, c, rfl⟩)) k
theorem a1S [a : Tk pt b A (ag [.slice none 0 0] 279) R] (k : av W0 N K e (uJ b [] :: R)) : av W0 N K e A :=
  eD ((Ent.ofPerm a.perm).trans ((Ent.cons (eX (E := 282) (sz := 6) (B := R))).trans (fH (R := R) (C := [pt b (ag [.slice none 0 0] 279), osl 282 6 (.slice none 0 0) []]) ⟨none, 0, rfl⟩))) k
end
theorem a1T bs c a (d : List It) (n : d.length < 900) : sP W0 318 [.slice none 0 0, .func (.func 239) #[] #[pQ bs]] (pt bs (ag [.slice a d.length c] 279) :: osl 282 6 (.slice a d.length c) (d.flatMap bM) :: R) (fun v B => ∃ f g, v = .slice f d.length g ∧ B = osl 282 6 (.slice f d.length g) (d.flatMap bM) :: osl 282 6 (.slice a d.length c) (d.flatMap bM) :: R) := by
 refine am func318 ntmps318 ?_
 refine ez (jL rfl rfl) fun e => ?_
 refine au 5 ?_
 refine a1S (b := e) ?_
 refine au 5 ?_
 refine Dc (fun C => C = pt bs (ag [.slice a d.length c] 279) :: osl 282 6 (.slice a d.length c) (d.flatMap bM) :: uJ e d :: R) (fun C => False) rfl call239 ?_ ?_ ?_
 intro L D
 refine a1Q d (by omega) (fun i => uJ e (d.take i) :: R) (by rw [List.take_zero]; exact sG (r1 := pt) (b1 := bs) (r2 := osl 282 6) (b2 := .slice a d.length c) (r3 := uJ) (b3 := e)) (by grind) ?_
 intro i o p
 simp only [Qay, Qaw]
 have k : d.take (i + 1) = d.take i ++ [d.getD i default] := by simp_all
 have l : (d.take i).length = i := by grind
 refine zZ rfl rfl ?_
 refine aX (aD rfl (dx se) ?_)
 rintro _ _ ⟨q, rfl, rfl⟩
 refine iW 1 aF ?_
 refine zX rfl ?_
 refine au 1 ?_
 refine KT (b := e) fun h j => ?_
 refine aX (ae rfl (cu Gg rfl (aI rfl)) ?_)
 refine ae rfl (pB nj fg rfl rfl) ?_
 refine aD rfl (iG jH fg se rfl (fm rfl rfl i5) rfl (by decide) (by decide) (by decide)) ?_
 rintro _ _ ⟨r, rfl, rfl⟩
 refine aD rfl (et (sz := 6) (by_ := 48) (info := Tryz.t282) jH (by kernel_rfl) rfl rfl rfl rfl (by decide) rfl rfl ee rfl rfl (by simp only [maxLen]; omega) (by omega)) ?_
 rintro _ _ ⟨s, t, rfl, rfl⟩
 refine iW 2 dX ?_
 refine a1R (b := e) (d.take (i + 1)) (by grind) (by grind) ?_
 refine zY ?_
 exact ao
 intro D C m
 subst m
 refine au 3 ?_
 refine KT (b := e) fun h j => ?_
 refine aX (ae rfl (cu Gg rfl (aI rfl)) ?_)
 refine ae rfl (bA rfl) (aL (aH (dE (vo (.inl rfl) (.cons (aS rfl) .nil) ?_))))
 exact ⟨_, ⟨h, j, rfl, rfl⟩, IO⟩
 grind
theorem a1U bs c a (b : List It) (g : b.length < 900) : sP W0 237 [.func (.func 239) #[] #[pQ bs]] (pt bs (ag [.slice a b.length c] 279) :: osl 282 6 (.slice a b.length c) (b.flatMap bM) :: R) (fun v B => ∃ e f, v = .slice e b.length f ∧ B = osl 282 6 (.slice e b.length f) (b.flatMap bM) :: osl 282 6 (.slice a b.length c) (b.flatMap bM) :: R) := by
 refine am func237 ntmps237 ?_
 refine aD rfl (cq call318 (a1T bs c a b g)) ?_
 rintro _ j ⟨h, i, rfl, d⟩
 obtain rfl := d.symm
 refine aw ?_
 refine ac ?_
 exact ⟨_, ⟨h, i, rfl, rfl⟩, IO⟩
theorem KU x : sQ W0 240 [iQ x] R (.bool false) R := by
 refine am func240 ntmps240 ?_
 refine ac ?_
 refine aG ?_
 simp [aN]
def uK (x y : Int) : Int := if x < y then -1 else if x > y then 1 else 0
theorem a1V x y : sQ W0 156 [iQ x, iQ y] R (iQ (uK x y)) R := by
 refine am func156 ntmps156 ?_
 refine ah (aC call240 (KU x)) ?_
 refine ah (aC call240 (KU y)) ?_
 refine ai (fun a => ?_) fun a => ?_
 refine ac ?_
 refine aG ?_
 rw [uK, Qad a] <;> rfl
 refine ai (fun b => ?_) fun b => ?_
 refine ac ?_
 refine aG ?_
 rw [uK, Qaa a, Qad (by omega)] <;> rfl
 refine ac ?_
 refine aG ?_
 rw [uK, Qaa a, Qaa (by omega)] <;> rfl
theorem KV x y : sQ W0 155 [.agg (bM x).toArray, .agg (bM y).toArray] R (iQ (uK x.u y.u)) R := by
 refine am func155 ntmps155 ?_
 refine bz fun b => ?_
 refine ez (kg rfl) fun c => ?_
 refine ae rfl (bA rfl) (aL (aH (aO (aX ?_))))
 refine ae rfl (d5 rfl tI rfl aR rfl (by first | exact Qac _ | rfl)) ?_
 refine ae rfl (cu di rfl (aI rfl)) ?_
 refine ae rfl (d5 rfl tI rfl aR rfl (by first | exact Qac _ | rfl)) ?_
 refine ae rfl (cu di rfl (aI rfl)) ?_
 refine aD rfl (iE call156 rfl (a1V x.u y.u)) ?_
 rintro _ d ⟨rfl, a⟩
 obtain rfl := a.symm
 refine ae rfl (bA rfl) (aL (aH (dE ?_)))
 exact ac ao
theorem wh x y : uK x y < 0 ↔ x < y := by
 unfold uK
 split
 omega
 split <;> omega
def Bh (l : List It) (j i : Nat) : Prop := ∀ p q, p < q → q ≤ i → q ≠ j → us l p ≤ us l q
theorem a1W {l j i} (h : Bh l j i) (o : 0 < j) (k : j ≤ i) (r : i < l.length) (m : us l j < us l (j - 1)) : Bh (swapL l j (j - 1)) (j - 1) i := by
 have f := kP (l := l) (i := j) (j := j - 1) (by omega) (by omega)
 intro p q c d e
 rw [f, f]
 have n : ¬ j - 1 = j := by omega
 by_cases a : q = j
 subst a
 rw [Qad (rfl : q = q)]
 by_cases b : p = q - 1
 omega
 rw [Qaa (by omega), Qaa b]; exact h p (q - 1) (by omega) (by omega) (by omega)
 rw [Qaa a, Qaa e]
 by_cases b : p = j
 rw [Qad b]; exact h (j - 1) q (by omega) d a
 rw [Qaa b]
 by_cases g : p = j - 1
 rw [Qad g]; exact h j q (by omega) d a
 rw [Qaa g]; exact h p q c d a
theorem a1X {l j i} (h : Bh l j i) (b : j = 0 ∨ us l (j - 1) ≤ us l j) : ∀ p q, p < q → q ≤ i → us l p ≤ us l q := fun p q a c => by
 by_cases e : q = j
 subst e
 rcases b with d | f
 omega
 by_cases g : p = q - 1
 grind
 have := h p (q - 1) (by omega) (by omega) (by omega); omega
 exact h p q a c e
theorem a1Y g c its sp (F : its.length < 900) (G : 0 < its.length) : sP W0 359 [.slice (some ⟨g, 0, none⟩) its.length c, .int .i64 0, .int .i64 its.length, .func (.func 155) #[] #[]] (pt g (ag (its.flatMap bM ++ sp) 282) :: R) (fun v B => ∃ l, v = .tuple #[] ∧ B = pt g (ag (l.flatMap bM ++ sp) 282) :: R ∧ l.Perm its ∧ ∀ p q, p < q → q < its.length → us l p ≤ us l q) := by
 refine ju 3 func359 ntmps359 ?_
 refine jP 4 (db rfl rfl (co (by omega))) ?_
 refine d4 (fun X : List It × Nat => X.1.Perm its ∧ 0 < X.2 ∧ X.2 ≤ its.length ∧ ∀ p q, p < q → q < X.2 → us X.1 p ≤ us X.1 q) (fun X => [(0, .slice (some ⟨g, 0, none⟩) its.length c), (1, .int .i64 0), (2, .int .i64 (its.length : Nat)), (3, .func (.func 155) #[] #[]), (8, .int .i64 X.2)]) (fun X => pt g (ag (X.1.flatMap bM ++ sp) 282) :: R) (fun X => its.length - X.2) (its, 1) ?_ ?_
 grind
 intro ⟨l, i⟩ ⟨r, s, C, a⟩
 dsimp only at r s C a ⊢
 refine au 8 ?_
 refine aA rfl (fun D => ?_) fun D => ?_
 refine au 11 ?_
 refine d4 (fun X : List It × Nat => X.1.Perm its ∧ X.2 ≤ i ∧ Bh X.1 X.2 i) (fun X => [(0, .slice (some ⟨g, 0, none⟩) its.length c), (1, .int .i64 0), (2, .int .i64 (its.length : Nat)), (3, .func (.func 155) #[] #[]), (8, .int .i64 i), (9, .int .i64 X.2)]) (fun X => pt g (ag (X.1.flatMap bM ++ sp) 282) :: R) (fun X => X.2) (l, i) ?_ ?_
 exact ⟨r, Qam _, fun p q u z H => a p q u (by omega)⟩
 intro ⟨d, j⟩ ⟨k, A, m⟩
 dsimp only at k A m ⊢
 have E := k.length_eq
 refine aO ?_
 refine cF (fun _ : Unit => True) (fun _ => [(0, .slice (some ⟨g, 0, none⟩) its.length c), (1, .int .i64 0), (2, .int .i64 (its.length : Nat)), (3, .func (.func 155) #[] #[]), (8, .int .i64 i), (9, .int .i64 j), (34, .bool (decide (0 < j ∧ us d j < us d (j - 1))))]) (fun _ => pt g (ag (d.flatMap bM ++ sp) 282) :: R) ?_ ?_
 skip
 refine fj [(g, 0, _)] 17 mixed rfl (bQ bH) (fun a => ?_)
 refine aj 0 4 a ?_
 refine mF (t := 21) rfl ?_ ?_
 intro w
 have n : 0 < j := by omega
 have f : j < d.length := by omega
 have x : (j : Int) - 1 = ((j - 1 : Nat) : Int) := by omega
 refine aj 4 3 a ?_
 refine dp 7 rfl rfl rfl a (jM jH fg rfl rfl rfl (by omega) (by first | exact Qac _ | rfl)) ?_
 refine aj 9 2 a ?_
 refine dp 11 rfl rfl rfl a (lg rfl rfl (by rw [co (by omega)]; omega : IntKind.wrap .i64 ((j : Int) - 1) = ((j - 1 : Nat) : Int))) ?_
 refine dp 12 rfl rfl rfl a (jM jH fg rfl rfl rfl (by omega) (by first | exact Qac _ | rfl)) ?_
 refine fG (is := [8, 13]) (by kernel_rfl) rfl ⟨?_, ?_, trivial⟩
 skip
 refine nT rfl rfl (dP (iD nj fg rfl (cV (lQ d sp j f) rfl) rfl)) rfl ?_; clear a
 rintro _ _ ⟨rfl, rfl⟩
 refine ⟨(bQ bH), fun a => ?_⟩
 refine gy 13 rfl rfl (dP (iD nj fg rfl (cV (lQ d sp (j - 1) (by omega)) rfl) rfl)) (bQ bH) fun a => ?_
 refine gy 14 rfl rfl (je rfl call155 rfl (KV (d.getD j default) (d.getD (j - 1) default))) (bQ bH) fun a => ?_
 refine aj 15 2 a ?_
 refine i6 ?_
 refine aH ?_
 refine dj () ?_ ?_ ?_
 trivial
 · repeat (first | exact bK | refine bc rfl ?_ | refine bc (Qai (fun b => some (Value.bool b)) (Qaz.2 ⟨fun h => ⟨by omega, (wh _ _).1 h⟩, fun h => (wh _ _).2 h.2⟩)) ?_ | refine bc (Qai (fun b => some (Value.bool b)) (Qal (fun h => absurd h.1 (by omega))).symm) ?_)
 exact IO
 skip
 refine nT rfl rfl (dP (iD nj fg rfl (cV (lQ d sp (j - 1) (by omega)) rfl) rfl)) rfl ?_; clear a
 rintro _ _ ⟨rfl, rfl⟩
 refine ⟨(bQ bH), fun a => ?_⟩
 refine gy 8 rfl rfl (dP (iD nj fg rfl (cV (lQ d sp j f) rfl) rfl)) (bQ bH) fun a => ?_
 refine gy 14 rfl rfl (je rfl call155 rfl (KV (d.getD j default) (d.getD (j - 1) default))) (bQ bH) fun a => ?_
 refine aj 15 2 a ?_
 refine i6 ?_
 refine aH ?_
 refine dj () ?_ ?_ ?_
 trivial
 · repeat (first | exact bK | refine bc rfl ?_ | refine bc (Qai (fun b => some (Value.bool b)) (Qaz.2 ⟨fun h => ⟨by omega, (wh _ _).1 h⟩, fun h => (wh _ _).2 h.2⟩)) ?_ | refine bc (Qai (fun b => some (Value.bool b)) (Qal (fun h => absurd h.1 (by omega))).symm) ?_)
 exact IO
 intro w
 refine aj 4 13 a ?_
 refine i6 ?_
 refine aH ?_
 refine dj () ?_ ?_ ?_
 trivial
 · repeat (first | exact bK | refine bc rfl ?_ | refine bc (Qai (fun b => some (Value.bool b)) (Qaz.2 ⟨fun h => ⟨by omega, (wh _ _).1 h⟩, fun h => (wh _ _).2 h.2⟩)) ?_ | refine bc (Qai (fun b => some (Value.bool b)) (Qal (fun h => absurd h.1 (by omega))).symm) ?_)
 exact IO
 intro _ _
 refine aA rfl (fun o => ?_) fun o => ?_
 obtain ⟨n, o⟩ := o
 have f : j < d.length := by omega
 have x : (j : Int) - 1 = ((j - 1 : Nat) : Int) := by omega
 refine au 2 ?_
 refine cF (fun _ : Unit => True) (fun _ => [(0, .slice (some ⟨g, 0, none⟩) its.length c), (1, .int .i64 0), (2, .int .i64 (its.length : Nat)), (3, .func (.func 155) #[] #[]), (8, .int .i64 i), (9, .int .i64 j)]) (fun _ => pt g (ag ((swapL d j (j - 1)).flatMap bM ++ sp) 282) :: R) ?_ ?_
 skip
 refine mz ?_
 refine fj [] 18 mixed rfl bH (fun a => ?_)
 refine aj 0 4 a ?_
 refine dp 4 rfl rfl rfl a (lg rfl rfl (by rw [co (by omega)]; omega : IntKind.wrap .i64 ((j : Int) - 1) = ((j - 1 : Nat) : Int))) ?_
 refine aj 5 2 a ?_
 refine dp 7 rfl rfl rfl a (lg rfl rfl (by rw [co (by omega)]; omega : IntKind.wrap .i64 ((j : Int) - 1) = ((j - 1 : Nat) : Int))) ?_
 refine dp 8 rfl rfl rfl a (jM jH fg rfl rfl rfl (by omega) (by first | exact Qac _ | rfl)) ?_
 refine aj 10 2 a ?_
 refine dp 12 rfl rfl rfl a (jM jH fg rfl rfl rfl (by omega) (by first | exact Qac _ | rfl)) ?_
 refine fG (is := [9, 13]) (by kernel_rfl) rfl ⟨?_, ?_, trivial⟩
 skip
 refine nT rfl rfl (dP (iD nj fg rfl (cV (lQ d sp (j - 1) (by omega)) rfl) rfl)) rfl ?_; clear a
 rintro _ _ ⟨rfl, rfl⟩
 refine ⟨bH, fun a => ?_⟩
 refine gy 13 rfl rfl (dP (iD nj fg rfl (cV (lQ d sp j f) rfl) rfl)) bH fun a => ?_
 refine dp 14 rfl rfl rfl a (jM jH fg rfl rfl rfl (by omega) (by first | exact Qac _ | rfl)) ?_
 refine m8 15 rfl rfl (vl fg rfl rfl rfl rfl (pN d sp j f) (qK d sp j (d.getD (j - 1) default) f)) bH fun a => ?_
 refine dp 16 rfl rfl rfl a (jM jH fg rfl rfl rfl (by omega) (by first | exact Qac _ | rfl)) ?_
 refine m8 17 rfl rfl (vl fg rfl rfl rfl rfl (pN (d.set j (d.getD (j - 1) default)) sp (j - 1) (by rw [Qap]; omega)) (qK (d.set j (d.getD (j - 1) default)) sp (j - 1) (d.getD j default) (by rw [Qap]; omega))) bH fun a => ?_
 refine i6 ?_
 refine au 2 ?_
 refine bu () ?_ (he := ?_)
 trivial
 show Ent _ (pt g (ag ((swapL d j (j - 1)).flatMap bM ++ sp) 282) :: R)
 unfold swapL
 exact IO
 skip
 refine nT rfl rfl (dP (iD nj fg rfl (cV (lQ d sp j f) rfl) rfl)) rfl ?_; clear a
 rintro _ _ ⟨rfl, rfl⟩
 refine ⟨bH, fun a => ?_⟩
 refine gy 9 rfl rfl (dP (iD nj fg rfl (cV (lQ d sp (j - 1) (by omega)) rfl) rfl)) bH fun a => ?_
 refine dp 14 rfl rfl rfl a (jM jH fg rfl rfl rfl (by omega) (by first | exact Qac _ | rfl)) ?_
 refine m8 15 rfl rfl (vl fg rfl rfl rfl rfl (pN d sp j f) (qK d sp j (d.getD (j - 1) default) f)) bH fun a => ?_
 refine dp 16 rfl rfl rfl a (jM jH fg rfl rfl rfl (by omega) (by first | exact Qac _ | rfl)) ?_
 refine m8 17 rfl rfl (vl fg rfl rfl rfl rfl (pN (d.set j (d.getD (j - 1) default)) sp (j - 1) (by rw [Qap]; omega)) (qK (d.set j (d.getD (j - 1) default)) sp (j - 1) (d.getD j default) (by rw [Qap]; omega))) bH fun a => ?_
 refine i6 ?_
 refine au 2 ?_
 refine bu () ?_ (he := ?_)
 trivial
 show Ent _ (pt g (ag ((swapL d j (j - 1)).flatMap bM ++ sp) 282) :: R)
 unfold swapL
 exact IO
 intro _ _
 refine au 2 ?_
 refine jP 3 (lg rfl rfl (by rw [co (by omega)]; omega : IntKind.wrap .i64 ((j : Int) - 1) = ((j - 1 : Nat) : Int))) ?_
 refine bR (swapL d j (j - 1), j - 1) ?_ (hμ := ?_)
 exact ⟨(lO f (by omega)).trans k, by show j - 1 ≤ i; omega, a1W m n A (by omega) o⟩
 show j - 1 < j; omega
 refine au 6 ?_
 have y : ∀ p q, p < q → q ≤ i → us d p ≤ us d q := a1X m (by
   by_cases q : 0 < j
   · exact .inr (Int.not_lt.1 fun e => o ⟨q, e⟩)
   left; omega)
 refine au 2 ?_
 refine jP 3 (db rfl rfl (by rw [co (by omega)]; omega : IntKind.wrap .i64 ((i : Int) + 1) = ((i + 1 : Nat) : Int))) ?_
 refine bR (d, i + 1) ?_ (hμ := ?_)
 exact ⟨k, Nat.succ_pos _, by show i + 1 ≤ its.length; omega, fun p q u z => y p q u (by dsimp only at z; omega)⟩
 show its.length - (i + 1) < its.length - i; omega
 refine au 4 ?_
 refine bX (.inr rfl) .nil ?_
 obtain rfl : i = its.length := by omega
 exact ⟨_, ⟨l, rfl, rfl, r, a⟩, IO⟩
theorem a1Z (x : Nat) (f : x < 60000) : sP W0 368 [.int .u64 x] R (fun v B => ∃ r : Nat, v = iQ r ∧ B = R) := by
 refine am func368 ntmps368 ?_
 refine aA rfl (fun b => ?_) fun b => ?_
 omega
 refine aw ?_
 refine aA rfl (fun c => ?_) fun c => ?_
 omega
 refine au 2 ?_
 refine cF (fun z : Nat × Nat => z.1 < 256 ∧ z.2 ≤ 8) (fun z => [(0, .int .u64 z.1), (2, iQ z.2)]) (fun _ => R) ?_ ?_
 refine au 6 ?_
 refine ai (fun d => ?_) fun d => ?_
 refine aa (j0 rfl rfl (by decide) (jQ (s := 8) (by decide))) ?_
 refine aa bY ?_
 exact bu (x / 2 ^ 8, 8) (by omega)
 exact bu (x, 0) (by omega)
 intro ⟨y, n⟩ ⟨a, e⟩
 dsimp only at a e ⊢
 refine aw ?_
 refine ae rfl (bD (D4 (by omega))) ?_
 refine Yi (j := y) rfl Om rfl rfl rfl (by show y < 256; exact a) fun m g => ?_
 refine aa (bD (co (by omega))) ?_
 refine aa (dU (n + m)) ?_
 refine ac ?_
 exact ⟨_, ⟨n + m, rfl, rfl⟩, IO⟩
theorem EZ (x : Nat) (b : x < 60000) : sP W0 320 [.int .u64 x] R (fun v B => ∃ r : Nat, v = iQ r ∧ B = R) := by
 refine ju 6 func320 ntmps320 ?_
 refine Yg ?_
 refine aw ?_
 refine aD rfl (aC call368 (a1Z x b)) ?_
 rintro _ c ⟨r, rfl, a⟩
 obtain rfl := a.symm
 refine aw ?_
 refine ac ?_
 exact ⟨_, ⟨r, rfl, rfl⟩, IO⟩
theorem a16 g c its sp k (h : its.length ≤ 12) (b : 0 < its.length) : sP W0 319 [.slice (some ⟨g, 0, none⟩) its.length c, iQ 0, iQ its.length, iQ k, .func (.func 155) #[] #[]] (pt g (ag (its.flatMap bM ++ sp) 282) :: R) (fun v B => ∃ l, v = .tuple #[] ∧ B = pt g (ag (l.flatMap bM ++ sp) 282) :: R ∧ l.Perm its ∧ ∀ p q, p < q → q < its.length → us l p ≤ us l q) := by
 refine am func319 ntmps319 ?_
 refine d4 (fun _ : Unit => True) (fun _ => [(0, .slice (some ⟨g, 0, none⟩) its.length c), (1, iQ 0), (2, iQ (its.length : Nat)), (3, iQ k), (4, .func (.func 155) #[] #[])]) (fun _ => pt g (ag (its.flatMap bM ++ sp) 282) :: R) (fun _ => 0) () ?_ ?_
 trivial
 intro u i
 refine aw ?_
 refine aa (nU its.length) ?_
 refine aA rfl (fun d => ?_) fun d => ?_
 refine au 6 ?_
 refine aD rfl (ap call359 (a1Y g c its sp (by omega) b)) ?_
 rintro _ j ⟨l, rfl, a, e, f⟩
 obtain rfl := a.symm
 refine aw ?_
 refine bX (.inl rfl) .nil ?_
 exact ⟨_, ⟨l, rfl, rfl, e, f⟩, IO⟩
 omega
theorem KW a c k : sQ W0 319 [.slice a 0 c, iQ 0, iQ 0, iQ k, .func (.func 155) #[] #[]] R (.tuple #[]) R := by
 have b : bE Tryz.prog W0 359 [.slice a 0 c, iQ 0, iQ 0, .func (.func 155) #[] #[]] R (fun v B => v = .tuple #[] ∧ B = R) := by
  refine am func359 ntmps359 ?_
  refine aa bY ?_
  refine d4 (fun _ : Unit => True) (fun _ => [(2, iQ 0), (8, iQ 1)]) (fun _ => R) (fun _ => 0) () ?_ ?_
  trivial
  intro u d
  refine aw ?_
  refine aA rfl (fun e => ?_) fun e => ?_
  omega
  refine aw ?_
  refine bX (.inr rfl) .nil ?_
  exact ao
 refine am func319 ntmps319 ?_
 refine d4 (fun _ : Unit => True) (fun _ => [(0, .slice a 0 c), (1, iQ 0), (2, iQ 0), (3, iQ k), (4, .func (.func 155) #[] #[])]) (fun _ => R) (fun _ => 0) () ?_ ?_
 trivial
 intro u d
 refine aw ?_
 refine aa gF ?_
 refine aA rfl (fun f => ?_) fun f => ?_
 refine au 6 ?_
 refine ah (aC call359 (b)) ?_
 refine bX (.inl rfl) .nil ?_
 exact ao
 omega
theorem a17 a c its (k : its.length ≤ 12) : sP W0 238 [.slice a its.length c, .func (.func 155) #[] #[]] (osl 282 6 (.slice a its.length c) (its.flatMap bM) :: R) (fun v B => ∃ l, v = .tuple #[] ∧ B = osl 282 6 (.slice a its.length c) (l.flatMap bM) :: R ∧ l.Perm its ∧ ∀ p q, p < q → q < its.length → us l p ≤ us l q) := by
 refine xg (fun d e => ?_) fun g n m o d e i s t => ?_
 have u : its.length = 0 := by grind
 obtain rfl : its = [] := QaE u
 cases d
 refine am On ntmps238 ?_
 refine aa (bD (show IntKind.wrap .u64 ((0 : Nat) : Int) = ((0 : Nat) : Int) from rfl)) ?_
 refine aD rfl (aC Oo (EZ 0 (by decide))) ?_
 rintro _ f ⟨r, rfl, b⟩
 obtain rfl := b.symm
 refine aw ?_
 refine ah (aC Oq (KW none 0 r)) ?_
 refine bX (.inr rfl) .nil ?_
 exact ⟨_, ⟨[], rfl, rfl, QaN _, fun p q _ h => by simp at h⟩, eX⟩
 cases d
 by_cases w : its.length = 0
 obtain rfl : its = [] := QaE w
 refine am On ntmps238 ?_
 refine aa (bD (show IntKind.wrap .u64 ((0 : Nat) : Int) = ((0 : Nat) : Int) from rfl)) ?_
 refine aD rfl (aC Oo (EZ 0 (by decide))) ?_
 rintro _ f ⟨r, rfl, b⟩
 obtain rfl := b.symm
 refine aw ?_
 refine ah (aC Oq (KW _ c r)) ?_
 refine bX (.inr rfl) .nil ?_
 exact ⟨_, ⟨[], rfl, rfl, QaN _, fun p q _ h => by simp at h⟩, fk e i s t⟩
 skip
 refine am On ntmps238 ?_
 refine aa (bD (show IntKind.wrap .u64 ((its.length : Nat) : Int) = ((its.length : Nat) : Int) from by simp only [IntKind.wrap, IntKind.bits, IntKind.signed]; simp; omega)) ?_
 refine aD rfl (aC Oo (EZ its.length (by omega))) ?_
 rintro _ f ⟨r, rfl, b⟩
 obtain rfl := b.symm
 refine aw ?_
 refine aD rfl (ap Oq (a16 g c its o r k (by omega))) ?_
 rintro _ f ⟨l, rfl, b, j, x⟩
 obtain rfl := b.symm
 have y := j.length_eq
 refine aw ?_
 refine bX (.inr rfl) .nil ?_
 exact ⟨_, ⟨l, rfl, rfl, j, x⟩, fk e i (by grind) (by grind)⟩
theorem a18 bs c a its (k : its.length ≤ 12) : sP W0 153 [.func (.func 239) #[] #[pQ bs], .func (.func 155) #[] #[]] (pt bs (ag [.slice a its.length c] 279) :: osl 282 6 (.slice a its.length c) (its.flatMap bM) :: R) (fun v B => ∃ (l : List It) (e : Option Addr) (f : Nat), v = .slice e l.length f ∧ B = osl 282 6 (.slice e l.length f) (l.flatMap bM) :: osl 282 6 (.slice a its.length c) (its.flatMap bM) :: R ∧ l.Perm its ∧ ∀ p q, p < q → q < its.length → us l p ≤ us l q) := by
 refine am func153 ntmps153 ?_
 refine aD rfl (cq call237 (a1U bs c a its (by omega))) ?_
 rintro _ m ⟨g, h, rfl, b⟩
 obtain rfl := b.symm
 refine aw ?_
 refine aD rfl (ap call238 (a17 g h its k)) ?_
 rintro _ m ⟨l, rfl, b, i, j⟩
 obtain rfl := b.symm
 have d := i.length_eq
 refine aw ?_
 refine ac ?_
 rw [← d] at j ⊢
 exact ⟨_, ⟨l, g, h, rfl, rfl, i, j⟩, IO⟩
theorem KX : ∀ {l L : List It}, l.Perm L → (∀ p q, p < q → q < l.length → us l p ≤ us l q) → L.Pairwise (fun x y => x.u < y.u) → l = L
 | [], L, a, _, _ => a.nil_eq
 | x :: l, [], a, _, _ => by have := a.length_eq; simp at this
 | x :: l, y :: L, a, c, d => by
  have k : ∀ z ∈ l, x.u ≤ z.u := fun z f => by
   obtain ⟨i, g, rfl⟩ := Qbc.1 f
   have := c 0 (i + 1) (by omega) (by simp; omega)
   simpa [us, g] using this
  obtain ⟨h, b⟩ := Qbi.1 d
  have m : x ∈ y :: L := a.subset (Qbj ..)
  have n : y ∈ x :: l := a.symm.subset (Qbj ..)
  have e : x = y := by
   grind
  subst e
  rw [KX (a.cons_inv) (fun p q j o => by
   have := c (p + 1) (q + 1) (by omega) (by simp; omega)
   simpa [us] using this) b]
def qM (x : It) : List Value := [.int .i64 x.kr, .int .i64 x.kp, .int .i64 x.ep, .int .i64 x.ef, .int .i64 x.er]
theorem F0 x : (qM x).length = 5 := rfl
theorem KY b its rm nw now L (j : Rep its now L) (M : L.length ≤ 12) : sP W0 67 [pQ b] (aU b (its, [rm, nw, .bool true]) :: R) (fun v B => ∃ a c, v = .slice a L.length c ∧ B = osl 53 5 (.slice a L.length c) (L.flatMap qM) :: aU b (its, [rm, nw, .bool true]) :: R) := by
 have m := j.length
 refine am func67 ntmps67 ?_
 refine dV 2 (ap zA (w8 b its rm nw)) ?_
 refine aA rfl (fun d => ?_) fun d => ?_
 exact absurd d (by decide)
 refine aw ?_
 refine AW (b := b) fun r s => ?_
 refine aw ?_
 refine aD rfl (aC call154 (a1O r its.length s)) ?_
 rintro _ y ⟨z, rfl, e⟩
 obtain rfl := e.symm
 refine aD rfl (cq call153 (a18 z s r its (by omega))) ?_
 rintro _ y ⟨l, h, d, rfl, e, t, A⟩
 obtain rfl := e.symm
 have C := t.length_eq
 obtain rfl : l = L := KX (t.trans j.perm) (fun p q D N => A p q D (by omega)) j.sort
 refine eD (B := aU b (its, [rm, nw, .bool true]) :: osl 282 6 (.slice h l.length d) (l.flatMap bM) :: R) (rQ rfl) ?_
 refine aw ?_
 refine fM (fun X : Nat × Option Addr × Nat => X.1 ≤ l.length) (fun X => [(4, .slice X.2.1 X.1 X.2.2), (16, .slice h l.length d), (17, iQ (l.length : Nat)), (18, iQ X.1)]) (fun X => osl 53 5 (.slice X.2.1 X.1 X.2.2) ((l.take X.1).flatMap qM) :: aU b (its, [rm, nw, .bool true]) :: osl 282 6 (.slice h l.length d) (l.flatMap bM) :: R) (fun X => l.length - X.1) (0, none, 0) ?_ ?_ ?_ ?_
 omega
 · repeat (first | exact bK | refine bc rfl ?_)
 exact eX
 intro ⟨i, F, G⟩ hi
 dsimp only at hi ⊢
 refine aw ?_
 refine ai (fun H => ?_) fun H => ?_
 have f : i < l.length := by omega
 refine m9 (E := 282) (sz := 6) (a := h) (n := l.length) (c := d) bM l iY (by decide) rfl (fun I => ?_)
 obtain ⟨g, o, rfl, J⟩ := I.at_ f
 have k : l.take (i + 1) = l.take i ++ [l[i]] := Qan f
 refine aw ?_
 refine aa (bJ f) ?_
 refine aa (df J) ?_
 refine bj fun K => ?_
 refine ar aF ?_
 refine gi (b := K) (o' := ag [iQ l[i].kr, iQ l[i].kp, iQ l[i].ep, iQ l[i].ef, iQ l[i].er, iQ l[i].u] 282) rfl ?_
 refine aw ?_
 refine aa (pZ Nt pU rfl TakeL.eq rfl) ?_
 refine dt (iG wJ pU Ck rfl (fm rfl rfl i5) rfl (by decide) (by decide) (by decide)) fun O => ?_
 refine aD rfl (et (sz := 5) (by_ := 40) (info := Tryz.t53) wJ (by kernel_rfl) rfl rfl rfl rfl (by decide) rfl rfl ee rfl rfl (by simp only [maxLen]; omega) (by omega)) ?_
 rintro _ _ ⟨w, x, rfl, rfl⟩
 refine aw ?_
 refine aa bY ?_
 refine bR (i + 1, w, x) ?_ (he := ?_)
 omega
 dsimp only
 rw [k, Qbt]
 show Ent _ (osl 53 5 (.slice w (i + 1) x) ((l.take i).flatMap qM ++ [[iQ l[i].kr, iQ l[i].kp, iQ l[i].ep, iQ l[i].ef, iQ l[i].er]].flatten) :: _)
 exact IO
 refine ac ?_
 obtain rfl : i = l.length := by omega
 rw [QaU (Qam _)]
 exact ⟨_, ⟨F, G, rfl, rfl⟩, IO⟩
theorem a19 b L (f : L.length ≤ 1000) page : sP W0 150 [pQ b, iQ page] (bG b L :: R) (fun v B => ∃ a c, v = .slice a (L.filter fun x => x.thr page).length c ∧ B = osl 51 2 (.slice a (L.filter fun x => x.thr page).length c) ((L.filter fun x => x.thr page).flatMap uI) :: bG b (L.filter fun x => !x.thr page) :: R) := by
 refine am func150 ntmps150 ?_
 refine dt (jL rfl rfl) fun d => ?_
 refine ah (ap v7 (uG b L)) ?_
 refine aD rfl (rq (B := bG b L :: kH 0 (cv [pt d (ag [iQ page] 3)]) :: R) inferInstance (aC GW (Bg b L f 235 [pQ d] _ _ (a1L W0 d page)))) ?_
 rintro _ g ⟨a, c, rfl, e⟩
 obtain rfl := e.symm
 refine aw ?_
 refine ac ?_
 exact ⟨_, ⟨a, c, rfl, rfl⟩, IO⟩
theorem a2a b L (f : L.length ≤ 1000) page : sP W0 194 [pQ b, iQ page] (bG b L :: R) (fun v B => ∃ a c, v = .slice a (L.filter (n0 page)).length c ∧ B = osl 51 2 (.slice a (L.filter (n0 page)).length c) ((L.filter (n0 page)).flatMap uI) :: bG b (L.filter fun x => !n0 page x) :: R) := by
 refine am func194 ntmps194 ?_
 refine dt (jL rfl rfl) fun d => ?_
 refine ah (ap v7 (uG b L)) ?_
 refine aD rfl (rq (B := bG b L :: kH 0 (cv [pt d (ag [iQ page] 3)]) :: R) inferInstance (aC GW (Bg b L f 273 [pQ d] _ _ (a1M W0 d page)))) ?_
 rintro _ g ⟨a, c, rfl, e⟩
 obtain rfl := e.symm
 refine aw ?_
 refine ac ?_
 exact ⟨_, ⟨a, c, rfl, rfl⟩, IO⟩
theorem a2b b L (e : L.length ≤ 1000) : sQ W0 401 [pQ b] (bG b L :: R) (iQ L.length) (bG b [] :: R) := by
 have f : L.filter (fun _ => true) = L := QaT.2 fun _ _ => rfl
 have g : L.filter (fun x => !(fun _ => true) x) = [] := by simp
 refine am func401 ntmps401 ?_
 refine ah (ap v7 (uG b L)) ?_
 refine aD rfl (rq (B := bG b L :: kH 0 (cv []) :: R) inferInstance (aC GW (Bg b L e 434 [] _ _ (a1N W0)))) ?_
 rintro _ h ⟨a, c, rfl, d⟩
 obtain rfl := d.symm
 rw [f, g]
 refine aw ?_
 exact ac ao
def yn (k : dk) (L : List Ln) : Value := match kU k L with
 | none => .tuple #[.agg (mZ (0, 0, 0)).toArray, .bool false]
 | some x => .tuple #[.agg (mZ x.e).toArray, .bool true]
theorem a2c {k L} (h : ∀ j (a : j < L.length), L[j].k ≠ k) : kU k L = none := QbX.2 fun x b => by
 obtain ⟨j, a, rfl⟩ := QbP b
 simpa using h j a
theorem a2d {k L i} hi (h : L[i].k = k) (a : ∀ j (a : j < L.length), j < i → L[j].k ≠ k) : kU k L = some L[i] := by
 rw [kU, List.find?_eq_some_iff_getElem]
 exact ⟨by simpa using h, i, hi, rfl, fun j b => by simpa using a j (by omega) b⟩
theorem tc b L (C : L.length ≤ 1000) (k : dk) : sQ W0 381 [pQ b, .agg (gY k).toArray] (bG b L :: R) (yn k L) (bG b L :: R) := by
 refine am func381 ntmps381 ?_
 refine bz fun m => ?_
 refine bj fun p => ?_
 refine ah (ap v7 (uG b L)) ?_
 refine we (b := b) fun a c => ?_
 refine aw ?_
 refine d4 (fun i : Nat => i ≤ L.length ∧ ∀ j (f : j < L.length), j < i → L[j].k ≠ k) (fun i => [(3, pQ m), (4, pQ p), (14, .slice a L.length c), (15, iQ (L.length : Nat)), (16, iQ i)]) (fun _ => pt b (ag [.slice a L.length c, .bool true] 276) :: osl 278 7 (.slice a L.length c) (L.flatMap dh) :: pt m (ag (gY k) 51) :: pt p (ag (mZ (0, 0, 0)) 49) :: R) (fun i => L.length - i) 0 ?_ ?_
 grind
 intro i ⟨D, r⟩
 refine aw ?_
 refine aA rfl (fun u => ?_) fun u => ?_
 refine au 5 ?_
 have d : i < L.length := by omega
 refine m9 (E := 278) (sz := 7) (a := a) (c := c) (n := L.length) dh L nN (by decide) rfl (fun v => ?_)
 obtain ⟨g, o, h, s⟩ := v.at_ d
 have e := fun q => a2d (k := k) d q r
 have l : L[i].k ≠ k → ∀ j (f : j < L.length), j < i + 1 → L[j].k ≠ k := fun q j f w => by
  rcases QaC j i with y | y
  grind
  grind
 obtain ⟨x, z⟩ : ∃ x, L[i] = x := ⟨_, rfl⟩
 rw [z] at s e l
 refine aw ?_
 refine aa (eB nq rf rfl h rfl rfl d (by first | exact Qac _ | rfl)) ?_
 refine aa (df s.weak) ?_
 refine bj fun F => ?_
 refine ar aF ?_
 refine aa (pZ C6 rh rfl TakeL.eq rfl) ?_
 refine aa (vj Tryz.eqGuardType51 rfl rfl (tU Ce Tryz.stoodInHeld51 (li rfl di rfl rfl (lH jI) (li rfl di rfl rfl (lH jI) tT)))) ?_
 refine ai (fun A => ?_) fun A => ?_
 have t : x.k = k := by grind
 refine aa (pZ za s8 rfl TakeL.eq rfl) ?_
 refine ar aF ?_
 refine aV (.cons (bi za s8 rfl rfl) (.cons (aS rfl) .nil)) ?_
 rw [yn, e t]
 exact ⟨_, ⟨rfl, rfl⟩, Ent.trans (B := pt b (ag [.slice a L.length c, .bool true] 276) :: osl 278 7 (.slice a L.length c) (L.flatMap dh) :: R) inferInstance (t9 (b := b) rfl)⟩
 have t : x.k ≠ k := by grind
 refine aa bY ?_
 refine bR (i + 1) ?_
 grind
 refine aw ?_
 refine ar aF ?_
 refine aV (.cons (bi za s8 rfl rfl) (.cons (aS rfl) .nil)) ?_
 rw [yn, a2c fun j f => r j f (by omega)]
 exact ⟨_, ⟨rfl, rfl⟩, Ent.trans (B := pt b (ag [.slice a L.length c, .bool true] 276) :: osl 278 7 (.slice a L.length c) (L.flatMap dh) :: R) inferInstance (t9 (b := b) rfl)⟩
@[reducible] def iI (x : Int) : List Value := [.int .i64 x]
theorem qN x : (iI x).length = 1 := rfl
theorem KZ (l : List Int) sp i (h : i < l.length) : (l.flatMap iI ++ sp)[i * 1]? = some (iQ (l.getD i 0)) := by
 have := mG qN l i 0 sp h (by decide)
 rw [QbN] at this
 rw [this]; simp [List.getD, h]
theorem a2e (l : List Int) sp i x (h : i < l.length) : (l.flatMap iI ++ sp).set (i * 1) (iQ x) = (l.set i x).flatMap iI ++ sp :=
  qd qN l i 0 _ _ sp h (by decide) (by simp)
structure PFI (W0 : World) (fn : FuncId) (us cs : List Value) (C : HP) (p : Int → Bool) : Prop where
  call : ∀ args w, (callFunc fn args).run Tryz.prog w = .ok (.enter fn args) w
  spec : ∀ x R, bE Tryz.prog W0 fn (us ++ [.int .i64 x] ++ cs) (kH 0 C :: R) (fun v B => v = .bool (p x) ∧ B = kH 0 C :: R)
def a2f (l : List Int) (p : Int → Bool) (r : Int) : Prop := (r = -1 ∧ ∀ i, i < l.length → p (l.getD i 0) = false) ∨ ∃ i : Nat, r = (i : Int) ∧ i < l.length ∧ p (l.getD i 0) = true ∧ ∀ j, j < i → p (l.getD j 0) = false
theorem a2g l g c sp f us cs C p (b : PFI W0 f us cs C p) (h : l.length < 1000) : sP W0 469 [.slice (some ⟨g, 0, none⟩) l.length c, .func (.func f) us.toArray cs.toArray] (pt g (ag (l.flatMap iI ++ sp) 3) :: kH 0 C :: R) (fun v B => ∃ r, v = iQ r ∧ B = pt g (ag (l.flatMap iI ++ sp) 3) :: kH 0 C :: R ∧ a2f l p r) := by
 refine am func469 ntmps469 ?_
 refine d4 (fun X : Nat => X ≤ l.length ∧ ∀ i, i < X → p (l.getD i 0) = false) (fun X => [(0, .slice (some ⟨g, 0, none⟩) l.length c), (1, .func (.func f) us.toArray cs.toArray), (7, iQ (l.length : Nat)), (8, iQ X)]) (fun X => pt g (ag (l.flatMap iI ++ sp) 3) :: kH 0 C :: R) (fun X => l.length - X) 0 ?_ ?_
 grind
 intro j ⟨k, a⟩
 refine aw ?_
 refine ai (fun e => ?_) fun e => ?_
 refine aa (bJ (by omega)) ?_
 refine aa (aE (aI (KZ l sp j (by omega)))) ?_
 refine ah (u6 (us := us) (cs := cs) rfl b.call rfl (b.spec (l.getD j 0) _)) ?_
 refine ai (fun d => ?_) fun d => ?_
 refine ac ?_
 exact ⟨_, ⟨_, rfl, rfl, .inr ⟨j, rfl, by omega, d, a⟩⟩, IO⟩
 refine aa bY ?_
 refine bR (j + 1) ?_
 grind
 refine ac ?_
 exact ⟨_, ⟨-1, rfl, rfl, .inl ⟨rfl, fun i m => a i (by omega)⟩⟩, IO⟩
def oo (p : Int → Bool) (l : List Int) : List Int := l.filter (fun x => !p x)
theorem L0 {p l} (h : ∀ i, i < l.length → p (l.getD i 0) = false) : oo p l = l := QaT.2 fun x b => by
 obtain ⟨i, a, rfl⟩ := Qbc.1 b
 have := h i a
 simpa [List.getD, a] using this
theorem F1 {p} {l : List Int} {j} (h : j < l.length) : oo p (l.take (j + 1)) = oo p (l.take j) ++ (if p (l.getD j 0) then [] else [l.getD j 0]) := by
 grind [Qan, oo]
structure DelN (p : Int → Bool) (its l : List Int) (i j : Nat) : Prop where
  len : l.length = its.length
  ij : i < j
  jl : j ≤ its.length
  front : l.take i = oo p (its.take j)
  back : ∀ k, j ≤ k → l.getD k 0 = its.getD k 0
theorem a2h {p} {l : List Int} {i} (h : i < l.length) (b : p (l.getD i 0) = true) (a : ∀ j, j < i → p (l.getD j 0) = false) : oo p (l.take (i + 1)) = l.take i := by
 grind [F1, Qav, L0]
theorem DelN.skip {p its l i j} (h : DelN p its l i j) (b : j < its.length) (a : p (l.getD j 0) = true) : DelN p its l i (j + 1) := by
 refine ⟨h.len, by have := h.ij; omega, by omega, ?_, fun k c => h.back k (by omega)⟩
 rw [h.back j (Qam _)] at a
 rw [F1 b, a, Qad rfl, Qav]; exact h.front
theorem DelN.move {p its l i j} (h : DelN p its l i j) (b : j < its.length) (a : p (l.getD j 0) = false) : DelN p its (l.set i (l.getD j 0)) (i + 1) (j + 1) := by
 have c := h.ij
 have d := h.len
 have e := h.back j (Qam _)
 rw [e] at a ⊢
 refine ⟨by rw [Qap]; exact d, by omega, by omega, ?_, fun k f => ?_⟩
 rw [F1 b, a, Qaa (by decide), ← h.front, Qan (by rw [Qap]; omega), List.getElem_set_self, List.take_set_of_le (Qam _)]
 rw [← h.back k (by omega)]
 simp only [Qas]
 rw [QaW (by omega)]
theorem a2i its g c sp f us cs C p (q : PFI W0 f us cs C p) (D : its.length < 1000) (E : its.length ≤ c) (w : c ≤ maxLen) (x : (its.flatMap iI ++ sp).length = c * 1) : sP W0 465 [.slice (some ⟨g, 0, none⟩) its.length c, .func (.func f) us.toArray cs.toArray] (pt g (ag (its.flatMap iI ++ sp) 3) :: kH 0 C :: R) (fun v B => ∃ y z, v = .slice y (oo p its).length z ∧ B = osl 3 1 (.slice y (oo p its).length z) ((oo p its).flatMap iI) :: kH 0 C :: R) := by
 refine am func465 ntmps465 ?_
 refine aD rfl (cq call469 (a2g its g c sp f us cs C p q D)) ?_
 rintro _ F ⟨r, rfl, a, A⟩
 obtain rfl := a.symm
 refine aw ?_
 refine aA rfl (fun G => ?_) fun G => ?_
 refine au 8 ?_
 refine ac ?_
 have b : ∀ i, i < its.length → p (its.getD i 0) = false := by
  rcases A with ⟨_, h⟩ | ⟨i, h, _⟩
  exact h
  omega
 rw [L0 b]
 exact ⟨_, ⟨_, c, rfl, rfl⟩, fk E w (cJ qN its) x⟩
 obtain ⟨i, rfl, H, s, b⟩ : ∃ i : Nat, r = (i : Int) ∧ i < its.length ∧ p (its.getD i 0) = true ∧ ∀ j, j < i → p (its.getD j 0) = false := by
  rcases A with ⟨h, _⟩ | h
  omega
  exact h
 refine aw ?_
 refine aa (dU (i + 1)) ?_
 refine d4 (fun X : List Int × Nat × Nat => DelN p its X.1 X.2.1 X.2.2) (fun X => [(0, .slice (some ⟨g, 0, none⟩) its.length c), (1, .func (.func f) us.toArray cs.toArray), (5, iQ X.2.1), (6, iQ X.2.2)]) (fun X => pt g (ag (X.1.flatMap iI ++ sp) 3) :: kH 0 C :: R) (fun X => its.length - X.2.2) (its, i, i + 1) ?_ ?_
 exact ⟨rfl, Nat.lt_succ_self _, by show i + 1 ≤ its.length; omega, (a2h H s b).symm, fun _ _ => rfl⟩
 intro ⟨l, m, j⟩ hD
 dsimp only at hD ⊢
 have N := hD.len
 have I := hD.ij
 have J := hD.jl
 refine aw ?_
 refine aA rfl (fun K => ?_) fun K => ?_
 refine au 2 ?_
 refine cF (fun Z : List Int × Nat => DelN p its Z.1 Z.2 (j + 1)) (fun Z => [(0, .slice (some ⟨g, 0, none⟩) its.length c), (1, .func (.func f) us.toArray cs.toArray), (5, iQ Z.2), (6, iQ j)]) (fun Z => pt g (ag (Z.1.flatMap iI ++ sp) 3) :: kH 0 C :: R) ?_ ?_
 refine au 5 ?_
 refine aa (bJ (by omega)) ?_
 refine aa (aE (aI (KZ l sp j (by omega)))) ?_
 refine ah (u6 (us := us) (cs := cs) rfl q.call rfl (q.spec (l.getD j 0) _)) ?_
 refine ai (fun t => ?_) fun t => ?_
 have d : p (l.getD j 0) = false := by simpa using t
 refine aa (bJ (by omega)) ?_
 refine ar (dq (by rw [Qaf, cJ qN]; omega) (a2e l sp m (l.getD j 0) (by omega))) ?_
 refine aa (dU (m + 1)) ?_
 exact bu (l.set m (l.getD j 0), m + 1) (hD.move (by omega) d)
 have d : p (l.getD j 0) = true := by simpa using t
 exact bu (l, m) (hD.skip (by omega) d)
 intro ⟨L, M⟩ hD2
 refine aw ?_
 refine aa (dU (j + 1)) ?_
 refine bR (L, M, j + 1) ?_ (hμ := ?_)
 exact hD2
 show its.length - (j + 1) < its.length - j; omega
 refine aw ?_
 obtain rfl : j = its.length := by omega
 have e := hD.front
 rw [QaU (Qam _)] at e
 have u : (oo p its).length = m := by rw [← e, QaR]; omega
 refine aa (xR ek aR rfl rfl rfl (by omega) (by omega) (Qac _)) ?_
 refine fh (Ef ek m4 (by simp [Value.cells, Value.oneCell']) rfl (by omega) (by rw [Qaf, cJ qN]; show m * 1 + (its.length - m) * 1 ≤ _; omega)) ?_
 rintro _ F ⟨o, k, rfl, a⟩
 obtain rfl := a.symm
 replace k : o.length = (its.length - m) * 1 := k
 have n : d7 (l.flatMap iI ++ sp) (m * 1) o = (oo p its).flatMap iI ++ (o ++ sp) := by
  rw [su _ _ _ (by rw [Qaf, cJ qN]; omega), D6 qN l m sp (by omega), e, show m * 1 + o.length = l.length * 1 by omega, xd qN l l.length sp (Qam _)]
  simp
 rw [n]
 refine aw ?_
 refine aa (oL ek aR rfl rfl rfl (by omega)) ?_
 refine ac ?_
 rw [u]
 exact ⟨_, ⟨_, _, rfl, rfl⟩, fk (by omega) w (by rw [cJ qN, u]) (by rw [← x]; simp only [Qaf, cJ qN, u, k]; omega)⟩
theorem a2j g x y : sP W0 466 [.slice (some ⟨g, 0, none⟩) 2 2] (pt g (ag [iQ x, iQ y] 3) :: R) (fun v B => ∃ (l : List Int) (sp : List Value), v = .slice (some ⟨g, 0, none⟩) l.length 2 ∧ l = (if x = y then [x] else [x, y]) ∧ (l.flatMap iI ++ sp).length = 2 ∧ B = pt g (ag (l.flatMap iI ++ sp) 3) :: R) := by
 refine ju 13 func466 ntmps466 ?_
 refine jf ?_
 refine d4 (fun k : Nat => k = 1 ∨ (k = 2 ∧ x ≠ y)) (fun k => [(0, .slice (some ⟨g, 0, none⟩) 2 2), (3, iQ k)]) (fun k => pt g (ag [iQ x, iQ y] 3) :: R) (fun k => 2 - k) 1 ?_ ?_
 omega
 intro k hk
 refine aw ?_
 refine ai (fun c4 => ?_) fun c4 => ?_
 obtain rfl : k = 1 := by
  omega
 refine bq [g] 10 fun hS => ?_
 refine aj 0 2 hS ?_
 refine ax 2 hS (jM ek aR rfl rfl (j := 1) rfl (by decide) (by first | exact Qac _ | rfl)) ?_
 refine aj 3 3 hS ?_
 refine ax 6 hS gF ?_
 refine ax 7 hS (jM ek aR rfl rfl (j := 0) rfl (by decide) (by first | exact Qac _ | rfl)) ?_
 refine aj 8 2 hS ?_
 refine aJ ?_
 refine ai (fun c6 => ?_) fun c6 => ?_
 refine aa (xR ek aR rfl rfl (i := 1) rfl (by decide) (by decide) (Qac _)) ?_
 refine d4 (fun j : Nat => j = 1) (fun j => [(0, .slice (some ⟨g, 0, none⟩) 2 2), (3, iQ 1), (4, .slice (some ⟨g, 1, none⟩) 1 1), (5, iQ j)]) (fun j => pt g (ag [iQ x, iQ y] 3) :: R) (fun j => 2 - j) 1 ?_ ?_
 rfl
 intro j hj
 refine aw ?_
 refine aA rfl (fun c9 => ?_) fun c9 => ?_
 omega
 refine aw ?_
 refine aa (xR ek aR rfl rfl (i := 1) rfl (by decide) (by decide) (Qac _)) ?_
 refine fh (Ef ek m4 (by simp [Value.cells, Value.oneCell']) rfl (by decide) (Qab rfl)) ?_
 rintro _ B_ ⟨vs, hvs, rfl, hB_⟩
 obtain rfl := hB_.symm
 obtain ⟨v, rfl⟩ : ∃ v, vs = [v] := by
  rcases vs with _ | ⟨v, _ | ⟨w, vs⟩⟩
  exact absurd hvs (by decide)
  grind
  exact absurd hvs (by simp [Value.cells])
 refine aw ?_
 refine aa (oL ek aR rfl rfl (h := 1) rfl (by decide)) ?_
 refine ac ?_
 have hxy : x = y := by omega
 exact ⟨_, ⟨[x], [v], rfl, by rw [Qad hxy], rfl, rfl⟩, (inferInstance : Ent (pt g (ag [iQ x, v] 3) :: R) (pt g (ag [iQ x, v] 3) :: R))⟩
 refine aa (db rfl rfl (by rw [co (by omega)]; rfl : IntKind.wrap .i64 (1 + 1) = ((2 : Nat) : Int))) ?_
 exact bR 2 (.inr ⟨rfl, by omega⟩)
 refine ac ?_
 have hxy : x ≠ y := by
  rcases hk with h | h
  omega
  exact h.2
 exact ⟨_, ⟨[x, y], [], rfl, by rw [Qaa hxy], rfl, rfl⟩, (inferInstance : Ent (pt g (ag [iQ x, iQ y] 3) :: R) (pt g (ag [iQ x, iQ y] 3) :: R))⟩
theorem a2k W0 b L (a : L.length ≤ 1000) : PFI W0 467 [pQ b] [] (cv [bG b L]) (gQ L) := ⟨call467, fun x R => by
 refine pD ?_
 simp only [Qay, Qaw]
 refine ge (a1J b L a x) fun v B c => ?_
 obtain ⟨rfl, rfl⟩ := c
 exact ⟨_, ⟨rfl, rfl⟩, inferInstance⟩⟩
theorem a2l b L (j : L.length ≤ 1000) r l : sP W0 443 [pQ b, iQ r, iQ l] (bG b L :: R) (fun v B => ∃ a c, v = .slice a (mo L r l).length c ∧ B = osl 3 1 (.slice a (mo L r l).length c) ((mo L r l).flatMap iI) :: bG b L :: R) := by
 refine am func443 ntmps443 ?_
 refine aa (sF rfl rfl (r := min r l) (by omega)) ?_
 refine aa (xQ rfl rfl (r := max r l) (by omega)) ?_
 refine dt (js ek aR m4 rfl rfl rfl rfl rfl (by decide) (by decide)) fun g => ?_
 refine aD rfl (ap call466 (a2j g (min r l) (max r l))) ?_
 rintro _ k ⟨f, i, rfl, m, e, d⟩
 obtain rfl := d.symm
 have h : oo (gQ L) f = mo L r l := by
  grind [mo, oo]
 have n : f.length ≤ 2 := by grind
 refine aw ?_
 refine aD rfl (rq (B := pt g (ag (f.flatMap iI ++ i) 3) :: kH 0 (cv [bG b L]) :: R) inferInstance (aC call465 (a2i f g 2 i 467 [pQ b] [] _ _ (a2k W0 b L j) (by omega) n (by simp only [maxLen]; omega) e))) ?_
 rintro _ k ⟨a, c, rfl, d⟩
 obtain rfl := d.symm
 rw [h]
 refine A2 ?_
 simp only [Qay, Qaw]
 refine aw ?_
 refine ac ?_
 exact ⟨_, ⟨a, c, rfl, rfl⟩, IO⟩
@[reducible] def yo (x : Ln) : List Value := [.int .i64 x.k.1, .int .i64 x.k.2, .int .i64 x.e.1, .int .i64 x.e.2.1, .int .i64 x.e.2.2]
theorem a2m b L (s : L.length ≤ 1000) : sP W0 66 [pQ b] (bG b L :: R) (fun v B => ∃ a c, v = .slice a L.length c ∧ B = osl 53 5 (.slice a L.length c) (L.flatMap yo) :: bG b L :: R) := by
 refine am func66 ntmps66 ?_
 refine ah (ap v7 (uG b L)) ?_
 refine we (b := b) fun a c => ?_
 refine aw ?_
 refine fM (fun X : Nat × Option Addr × Nat => X.1 ≤ L.length) (fun X => [(3, .slice X.2.1 X.1 X.2.2), (11, .slice a L.length c), (12, iQ (L.length : Nat)), (13, iQ X.1)]) (fun X => osl 53 5 (.slice X.2.1 X.1 X.2.2) ((L.take X.1).flatMap yo) :: pt b (ag [.slice a L.length c, .bool true] 276) :: osl 278 7 (.slice a L.length c) (L.flatMap dh) :: R) (fun X => L.length - X.1) (0, none, 0) ?_ ?_ ?_ ?_
 exact QaF _
 · repeat (first | exact bK | refine bc rfl ?_)
 exact eX
 intro ⟨i, k, l⟩ hi
 dsimp only at hi ⊢
 refine aw ?_
 refine ai (fun m => ?_) fun m => ?_
 have d : i < L.length := by omega
 refine m9 (E := 278) (sz := 7) (a := a) (c := c) (n := L.length) dh L nN (by decide) rfl (fun p => ?_)
 obtain ⟨g, o, e, h⟩ := p.at_ d
 obtain ⟨x, j⟩ : ∃ x, L[i] = x := ⟨_, rfl⟩
 have f : L.take (i + 1) = L.take i ++ [x] := by rw [Qan d, j]
 rw [j] at h
 refine aw ?_
 refine aa (eB nq rf rfl e rfl rfl d (by first | exact Qac _ | rfl)) ?_
 refine aa (df h.weak) ?_
 refine bj fun t => ?_
 refine ar aF ?_
 refine aa (pZ Nt pU rfl TakeL.eq rfl) ?_
 refine dt (iG wJ pU Ck rfl (fm rfl rfl i5) rfl (by decide) (by decide) (by decide)) fun u => ?_
 rw [show ([yo x] : List (List Value)).flatten = yo x from Qav _]
 refine aD rfl (et (sz := 5) (by_ := 40) (info := Tryz.t53) wJ (by kernel_rfl) rfl rfl rfl rfl (by decide) rfl rfl ee rfl rfl (by simp only [maxLen]; omega) (by omega)) ?_
 rintro _ _ ⟨q, r, rfl, rfl⟩
 refine aw ?_
 refine aa bY ?_
 refine bR (i + 1, q, r) ?_ (he := ?_)
 omega
 dsimp only
 rw [f, Qbt, List.flatMap_singleton]
 exact IO
 refine ac ?_
 obtain rfl : i = L.length := by omega
 rw [Qby]
 exact ⟨_, ⟨k, l, rfl, rfl⟩, Ent.cons (t9 (b := b) rfl)⟩
theorem a2n (L : List Ln) sp i hi : ((L.flatMap dh ++ sp).drop (i * 7)).take 7 = dh L[i] := q9 nN L i sp hi
theorem L3 (L : List Ln) sp i j hi (a : j < 7) : (L.flatMap dh ++ sp)[i * 7 + j]? = (dh L[i])[j]? := mG nN L i j sp hi a
theorem L5 (L : List Ln) sp i hi : (L.flatMap dh ++ sp).set (i * 7 + 4) (iQ (io L[i].e.2.2)) = (L.set i L[i].nar).flatMap dh ++ sp :=
  qd nN L i 4 _ _ sp hi (by decide) rfl
theorem a2o {W0 A R g L sp} [h : Tk pt g A (ag (L.flatMap dh ++ sp) 278) R] : cG (aQ W0 A) (some ⟨g, 0, none⟩) 7 dh L := fun i x a => by
 obtain ⟨b, rfl⟩ := QbS.1 a
 refine ⟨g, 0, rfl, ?_⟩
 rw [Qac]
 exact cV (a2n L sp i b) rfl
theorem a2p b v0 : sQ W0 151 [pQ b] (pt b (ag [v0, .bool true] 276) :: R) (.bool false) (pt b (ag [v0, .bool true] 276) :: R) := by
 refine am func151 ntmps151 ?_
 refine cy rfl rfl rfl (fun a => ?_) fun a => ?_
 cases a
 refine aw ?_
 exact ac ao
theorem a2q b L (A : L.length ≤ 1000) a n c (r : L.length = n) (s : cG (aQ W0 (pt b (ag [.slice a n c, .bool true] 276) :: R)) a 7 dh L) p : sQ W0 467 [pQ b, iQ p] (pt b (ag [.slice a n c, .bool true] 276) :: R) (.bool (gQ L p)) (pt b (ag [.slice a n c, .bool true] 276) :: R) := by
 subst r
 refine am func467 ntmps467 ?_
 refine ah (ap v7 (a2p b _)) ?_
 refine d4 (fun i : Nat => i ≤ L.length ∧ ∀ j (f : j < L.length), j < i → L[j].thr p = false) (fun i => [(0, pQ b), (1, iQ p), (12, iQ (L.length : Nat)), (13, iQ i)]) (fun _ => pt b (ag [.slice a L.length c, .bool true] 276) :: R) (fun i => L.length - i) 0 ?_ ?_
 grind
 intro i ⟨B, t⟩
 refine aw ?_
 refine aA rfl (fun u => ?_) fun u => ?_
 refine au 11 ?_
 have d : i < L.length := by omega
 obtain ⟨g, o, k, l⟩ := s.at_ d
 obtain ⟨x, h⟩ : ∃ x, L[i] = x := ⟨_, rfl⟩
 have e : x.thr p = true → gQ L p = true := fun q => uF.2 ⟨x, by rw [← h]; exact QaG d, q⟩
 have v : x.thr p = false → ∀ j (f : j < L.length), j < i + 1 → L[j].thr p = false := fun q j f w => by
  rcases QaC j i with y | y
  grind
  grind
 rw [h] at l
 refine aw ?_
 refine aa (eB nq rf rfl k rfl rfl d (by first | exact Qac _ | rfl)) ?_
 refine ah (aC GV (Bf g (o + i * 7) x l p)) ?_
 refine ai (fun m => ?_) fun m => ?_
 refine ac ?_
 rw [e m]
 exact ao
 refine aa bY ?_
 refine bR (i + 1) ?_
 grind
 refine aw ?_
 refine ac ?_
 have z : gQ L p = false := by
  rw [← Qau, uF]
  rintro ⟨x, h, q⟩
  obtain ⟨j, f, rfl⟩ := QbP h
  rw [t j f (by omega)] at q; cases q
 rw [z]
 exact ao
def kF (r l : Int) (L : List Ln) (i : Nat) : List Ln := (L.take i).map (dM r l) ++ L.drop i
theorem L6 r l L i (a : i ≤ L.length) : (kF r l L i).length = L.length := by simp [kF]; omega
theorem a2r {r l : Int} {L : List Ln} {i : Nat} (a : i < L.length) : (kF r l L i)[i]'(by grind [L6]) = L[i] := by
 grind [kF]
theorem a2s {r l L i} hi : kF r l L (i + 1) = (kF r l L i).set i (dM r l L[i]) := by
 have a : ((L.take i).map (dM r l)).length = i := by simp; omega
 unfold kF
 rw [Qan hi, QaH, QcI, Qbf hi (l := L), QbB _ _ (by omega), a, Nat.sub_self, List.set_cons_zero]
 simp
theorem a2t b L z (K : (L ++ [z]).length ≤ 1000) (C : ∀ x ∈ L ++ [z], i64 x.e.2.2) r l : sQ W0 446 [pQ b, iQ r, iQ l] (bG b (L ++ [z]) :: R) (.tuple #[]) (bG b (wc ((L ++ [z]).map (dM r l))) :: R) := by
 have h : wc ((L ++ [z]).map (dM r l)) = L.map (dM r l) ++ [if gQ ((L ++ [z]).map (dM r l)) (dM r l z).e.1 then (dM r l z).nar else dM r l z] := by
  rw [QaH, QcI, KC]
 have k : kF r l (L ++ [z]) (L ++ [z]).length = (L ++ [z]).map (dM r l) := by unfold kF; rw [Qby, List.drop_length, Qav]
 obtain ⟨M, t⟩ : ∃ M, L ++ [z] = M := ⟨_, rfl⟩
 have u : M.length = L.length + 1 := by rw [← t]; simp
 rw [t] at h k K C ⊢
 have D : i64 (dM r l z).e.2.2 := by
  have := C z (by rw [← t]; simp)
  unfold dM; split
  show i64 (io z.e.2.2)
  obtain ⟨N, O⟩ := this
  unfold io; split
  rename_i P
  have := Qar P
  exact ⟨by omega, by omega⟩
  exact ⟨N, O⟩
  exact this
 refine am func446 ntmps446 ?_
 refine a1H (b := b) (by intro q; rw [q] at u; simp at u) fun g c m U H I => ?_
 refine aw ?_
 refine fM (fun i : Nat => i ≤ M.length) (fun i => [(0, pQ b), (1, iQ r), (2, iQ l), (13, iQ (M.length : Nat)), (14, iQ i)]) (fun i => pt b (ag [.slice (some ⟨g, 0, none⟩) M.length c, .bool true] 276) :: pt g (ag ((kF r l M i).flatMap dh ++ m) 278) :: R) (fun i => M.length - i) 0 ?_ ?_ ?_ ?_
 exact QaF _
 · repeat (first | exact bK | refine bc rfl ?_)
 rw [show kF r l M 0 = M by simp [kF]]
 exact IO
 intro i Q
 refine aw ?_
 refine aA rfl (fun S => ?_) fun S => ?_
 refine au 2 ?_
 refine cF (fun _ : Unit => True) (fun _ => [(0, pQ b), (1, iQ r), (2, iQ l), (13, iQ (M.length : Nat)), (14, iQ i)]) (fun _ => pt b (ag [.slice (some ⟨g, 0, none⟩) M.length c, .bool true] 276) :: pt g (ag ((kF r l M (i + 1)).flatMap dh ++ m) 278) :: R) ?_ ?_
 refine au 8 ?_
 have a : i < M.length := by omega
 have p := L6 r l M i Q
 have n : (kF r l M i)[i]'(by rw [p]; exact a) = M[i] := a2r a
 have o := a2s (r := r) (l := l) a
 have s := C _ (QaG a)
 have d := fun j E => L3 (kF r l M i) m i j (by rw [p]; exact a) E
 have f := L5 (kF r l M i) m i (by rw [p]; exact a)
 rw [n] at d f
 obtain ⟨x, J⟩ : ∃ x, M[i] = x := ⟨_, rfl⟩
 rw [J] at o s d f
 refine aw ?_
 refine aa (bJ a) ?_
 refine aa (aE (aI ((d 2 (by decide)).trans rfl))) ?_
 refine cz (fun v => ?_) fun v => ?_
 refine aa (bJ a) ?_
 refine ah (ap Ot (EY g (i * 7) ((kF r l M i).flatMap dh ++ m) x.e.2.2 s ((d 4 (by decide)).trans rfl))) ?_
 rw [f]
 refine bu () ?_ (he := ?_)
 trivial
 rw [o, show dM r l x = x.nar from Qad (by omega)]
 exact IO
 refine ai (fun T => ?_) fun T => ?_
 refine aa (bJ a) ?_
 refine ah (ap Ot (EY g (i * 7) ((kF r l M i).flatMap dh ++ m) x.e.2.2 s ((d 4 (by decide)).trans rfl))) ?_
 rw [f]
 refine bu () ?_ (he := ?_)
 trivial
 rw [o, show dM r l x = x.nar from Qad (by omega)]
 exact IO
 refine bu () ?_ (he := ?_)
 trivial
 rw [o, show dM r l x = x from Qaa (by omega), show (kF r l M i).set i x = kF r l M i by rw [← J, ← n, QbV]]
 exact IO
 intro _ _
 refine aw ?_
 refine aa bY ?_
 exact bR (i + 1) (by omega)
 refine aw ?_
 obtain rfl : i = M.length := by omega
 rw [k]
 have w : (M.map (dM r l)).length = M.length := Qax _
 have y : L.length < (M.map (dM r l)).length := by omega
 have n : (M.map (dM r l))[L.length] = dM r l z := by simp [← t]
 have d := fun j E => L3 (M.map (dM r l)) m L.length j y E
 have f := L5 (M.map (dM r l)) m L.length y
 have F : (M.map (dM r l)).set L.length (dM r l z).nar = L.map (dM r l) ++ [(dM r l z).nar] := by
  rw [← t, QaH, QbB _ _ (by simp)]; simp
 have A : M.map (dM r l) = L.map (dM r l) ++ [dM r l z] := by rw [← t, QaH]; rfl
 rw [n] at d f
 refine bq [b] 12 fun B => ?_
 refine aj 0 9 B ?_
 refine ax 9 B (nU L.length) ?_
 refine ax 10 B (bJ (by omega)) ?_
 refine aj 11 1 B ?_
 refine aJ ?_
 refine aa (aE (aI ((d 2 (by decide)).trans rfl))) ?_
 refine ah (ap call467 (a2q b (M.map (dM r l)) (by omega) (some ⟨g, 0, none⟩) M.length c w (a2o (g := g) (sp := m)) (dM r l z).e.1)) ?_
 refine ai (fun G => ?_) fun G => ?_
 refine ah (ap Ot (EY g (L.length * 7) ((M.map (dM r l)).flatMap dh ++ m) (dM r l z).e.2.2 D ((d 4 (by decide)).trans rfl))) ?_
 rw [f, F]
 refine bX (.inr rfl) .nil ?_
 rw [h, Qad G]
 exact ⟨_, ⟨rfl, rfl⟩, KO (b := b) rfl (by simp; omega) (by omega) H (by rw [← I]; simp only [Qaf, cJ nN, Qax, QbD]; omega)⟩
 refine bX (.inr rfl) .nil ?_
 rw [h, Qaa G, ← A]
 exact ⟨_, ⟨rfl, rfl⟩, KO (b := b) rfl w.symm (by omega) H (by rw [← I]; simp only [Qaf, cJ nN, Qax])⟩
theorem a2u l a n c (j : l.length = n) (t : n ≤ 1000) (f : cG (aQ W0 R) a 7 dh l) : sP W0 445 [.slice a n c] R (fun v B => ∃ g i, v = .slice g n i ∧ B = osl 278 7 (.slice g n i) (l.flatMap dh) :: R) := by
 subst j
 refine am func445 ntmps445 ?_
 refine aa (A0 nq rfl rfl) ?_
 refine aA rfl (fun e => ?_) fun e => ?_
 refine au 7 ?_
 refine ac ?_
 have k : l = [] := by
  rcases l with _ | ⟨x, l⟩
  rfl
  obtain ⟨b, o, h, _⟩ := f 0 x rfl
  rw [e] at h; cases h
 subst k
 exact ⟨_, ⟨none, 0, rfl, rfl⟩, eX⟩
 have d := f.src nN (fun _ => trivial)
 refine jd (aH (aO (aX (aD rfl (vx nq rf rfl) ?_))))
 rintro _ _ ⟨u, rfl, rfl⟩
 refine aw ?_
 refine aD rfl (Aw (sz := 7) (by_ := 56) (info := Tryz.t278) nq (by kernel_rfl) rfl rfl rfl rfl (by decide) rfl rfl (news := l.flatMap dh) (by
 rcases d with h | ⟨m, p, q, r⟩
 grind
 right; exact ⟨m, p, q, r.weak⟩) (cJ nN l) (ER Kz l) (by simp only [maxLen]; omega) (by omega)) ?_
 rintro _ _ ⟨s, e, rfl, rfl⟩
 refine aw ?_
 refine ac ?_
 rw [Qac, Qaw]
 exact ⟨_, ⟨s, e, rfl, rfl⟩, IO⟩
theorem a2v k e r l L : yl (yk k e r l L) = kV k L ++ [⟨k, e, r, l⟩] := by
 grind [yl, yk, kV]
theorem a2w {α S a g o sz f} {c : List α} (h : cG S a sz f c) (d : a = some ⟨g, o, none⟩) : cG S (some ⟨g, o + sz, none⟩) sz f c.tail := fun i x l => by
 obtain ⟨b, j, e, k⟩ := h (i + 1) x (by grind)
 rw [d] at e; cases e
 exact ⟨g, o + sz, rfl, by rw [show o + sz + i * sz = o + (i + 1) * sz by rw [Qcg]; omega]; exact k⟩
theorem a2x b L (N : L.length ≤ 32) (hr : ∀ x ∈ L, i64 x.e.2.2) (k : dk) (e : jD) (he : i64 e.2.2) r l (O : uH r = true) (P : uH l = true) : sP W0 423 [pQ b, .agg (gY k).toArray, .agg (mZ e).toArray, iQ r, iQ l] (bG b L :: R) (fun v B => ∃ a c, v = .tuple #[.slice a (mo L r l).length c, iQ 0] ∧ B = osl 3 1 (.slice a (mo L r l).length c) ((mo L r l).flatMap iI) :: bG b (mp k e r l L) :: R) := by
 have u : L.filter (fun x => !(decide (x.k = k))) = L.filter fun x => decide (x.k ≠ k) := by
  grind
 obtain ⟨M, F⟩ : ∃ M, (L.filter fun x => decide (x.k ≠ k)) = M := ⟨_, rfl⟩
 have Q : M.length ≤ 32 := by grind
 have G : kV k L = if 31 < M.length then M.tail else M := by rw [kV, F]
 have S := KL (k := k) N
 have A : ∀ x ∈ kV k L ++ [(⟨k, e, r, l⟩ : Ln)], i64 x.e.2.2 := fun x T => by
  rcases QaY.1 T with q | q
  grind [ET]
  grind
 have U : mp k e r l L = wc ((kV k L ++ [(⟨k, e, r, l⟩ : Ln)]).map (dM r l)) := by rw [mp, a2v]
 obtain ⟨j, w⟩ : ∃ f, mo L r l = f := ⟨_, rfl⟩
 rw [w, U]
 refine am func423 ntmps423 ?_
 refine bz fun z => ?_
 refine bz fun H => ?_
 refine ah (ap v7 (uG b L)) ?_
 refine ah (aC call442 (KP r)) ?_
 rw [O]
 refine ai (fun h => ?_) fun h => ?_
 exact absurd rfl h
 refine ah (aC call442 (KP l)) ?_
 rw [P]
 refine aA rfl (fun y => ?_) fun y => ?_
 exact absurd rfl y
 refine jd (oI (aH (aO (aX (ae rfl (aM rfl) (ae rfl (aM rfl) (ae rfl (aM rfl) ?_)))))))
 refine aD rfl (ap call443 (a2l b L (by omega) r l)) ?_
 rintro _ I ⟨o, p, rfl, m⟩
 obtain rfl := m.symm
 rw [w]
 refine ae rfl (bA rfl) (aL (aH (aO (aX (ae rfl (aM rfl) (ae rfl (xf rfl rfl) ?_))))))
 refine aD rfl (rq (B := bG b L :: kH 0 (cv [pt z (ag (gY k) 51)]) :: osl 3 1 (.slice o j.length p) (j.flatMap iI) :: pt H (ag (mZ e) 49) :: R) inferInstance (aC GW (Bg b L (by omega) 444 [pQ z] _ _ (a1K W0 z k)))) ?_
 rintro _ I ⟨ak, ck, rfl, m⟩
 obtain rfl := m.symm
 rw [u, F]
 refine A2 ?_
 simp only [Qay, Qaw]
 refine we (b := b) fun a c => ?_
 refine aL (aH ?_)
 refine cF (fun X : Option Addr × Nat => True) (fun X => [(0, pQ b), (3, iQ r), (4, iQ l), (12, .slice o j.length p)]) (fun X => pt b (ag [.slice X.1 (M.length + 1) X.2, .bool true] 276) :: osl 278 7 (.slice X.1 (M.length + 1) X.2) (M.flatMap dh ++ dh (⟨k, e, r, l⟩ : Ln)) :: osl 3 1 (.slice o j.length p) (j.flatMap iI) :: R) ?_ ?_
 refine bq [z, H] 16 fun d => ?_
 refine aj 0 4 d ?_
 refine aj 5 2 d ?_
 refine ax 7 d (fR NU Ck (aP rh (aP s8 fQ)) (kh rfl rh rfl rfl (Qab rfl) SetRL.eq (kh rfl s8 rfl rfl (Qab rfl) SetRL.eq fP))) ?_
 refine aj 8 2 d ?_
 refine ax 10 d (fR a8k Ci (aP pU (aP aR (aP aR fQ))) (kh rfl pU rfl rfl (Qab rfl) SetRL.eq (cA rfl aR rfl rfl (Qab rfl) SetL.eq (cA rfl aR rfl rfl (Qab rfl) SetL.eq fP)))) ?_
 refine fG (is := [4, 11]) (by kernel_rfl) rfl ⟨?_, ?_, trivial⟩
 refine dy (dP (aE (aI rfl))) ?_; clear d
 rintro _ _ ⟨rfl, rfl⟩
 refine ⟨aT, fun d => ?_⟩
 refine kl 11 (by kernel_rfl) rfl rfl (iG nq rf Ci rfl (fm rfl rfl i5) rfl (by decide) (by decide) (by decide)) rfl ?_; clear d
 rintro _ _ ⟨V, rfl, rfl⟩
 rw [show ([dh (⟨k, e, r, l⟩ : Ln)] : List (List Value)).flatten = dh (⟨k, e, r, l⟩ : Ln) from Qav _]
 refine ⟨aT, fun d => ?_⟩
 refine cj 12 (et (sz := 7) (by_ := 56) (info := Tryz.t278) nq (by kernel_rfl) rfl rfl rfl rfl (by decide) rfl rfl ee rfl rfl (by simp only [maxLen]; omega) (by omega)) ?_; clear d
 rintro _ _ ⟨s, h, rfl, rfl⟩
 refine ⟨aT, fun d => ?_⟩
 refine aj 13 2 d ?_
 refine cp 15 dX fun d => ?_
 refine i6 ?_
 refine aH ?_
 exact bu (s, h) trivial
 skip
 refine nT rfl rfl (iG nq rf Ci rfl (fm rfl rfl i5) rfl (by decide) (by decide) (by decide)) rfl ?_; clear d
 rintro _ _ ⟨V, rfl, rfl⟩
 rw [show ([dh (⟨k, e, r, l⟩ : Ln)] : List (List Value)).flatten = dh (⟨k, e, r, l⟩ : Ln) from Qav _]
 refine ⟨aT, fun d => ?_⟩
 refine cg 4 (dP (aE (aI rfl))) fun d => ?_
 refine cj 12 (et (sz := 7) (by_ := 56) (info := Tryz.t278) nq (by kernel_rfl) rfl rfl rfl rfl (by decide) rfl rfl ee rfl rfl (by simp only [maxLen]; omega) (by omega)) ?_; clear d
 rintro _ _ ⟨s, h, rfl, rfl⟩
 refine ⟨aT, fun d => ?_⟩
 refine aj 13 2 d ?_
 refine cp 15 dX fun d => ?_
 refine aJ ?_
 exact bu (s, h) trivial
 intro ⟨s, h⟩ _
 dsimp only
 refine cF (fun _ : Unit => True) (fun _ => [(0, pQ b), (3, iQ r), (4, iQ l), (12, .slice o j.length p)]) (fun _ => bG b (kV k L ++ [(⟨k, e, r, l⟩ : Ln)]) :: osl 3 1 (.slice o j.length p) (j.flatMap iI) :: R) ?_ ?_
 refine au 10 ?_
 refine ai (fun W => ?_) fun W => ?_
 have t : (M.flatMap dh ++ dh (⟨k, e, r, l⟩ : Ln)) = (M ++ [(⟨k, e, r, l⟩ : Ln)]).flatMap dh := by grind
 refine sH (E := 278) (sz := 7) (a := s) (c := h) (n := M.length + 1) (ys := M.flatMap dh ++ dh (⟨k, e, r, l⟩ : Ln)) (fun Y => ?_)
 obtain ⟨g, rfl⟩ := vN Y (by simp [dh])
 refine Ah (E := 278) (sz := 7) (a := some ⟨g, 0, none⟩) (c := h) (n := M.length + 1) (fun J => ?_)
 refine m9 (E := 278) (sz := 7) (a := some ⟨g, 0, none⟩) (c := h) (n := M.length + 1) dh (M ++ [(⟨k, e, r, l⟩ : Ln)]) nN (by decide) t (fun Z => ?_)
 refine aw ?_
 refine aa (xR (o' := 0 + 7) nq rf rfl rfl (i := 1) rfl (by omega) (by omega) rfl) ?_
 refine aD rfl (aC call445 (a2u ((M ++ [(⟨k, e, r, l⟩ : Ln)]).tail) (some ⟨g, 0 + 7, none⟩) (M.length + 1 - 1) (h - 1) (by simp) (by omega) (a2w Z rfl))) ?_
 rintro _ I ⟨K, y, rfl, m⟩
 obtain rfl := m.symm
 refine aw ?_
 refine ar dX ?_
 refine bu () ?_ (he := ?_)
 trivial
 have C : M ≠ [] := by grind
 have D : (M ++ [(⟨k, e, r, l⟩ : Ln)]).tail = M.tail ++ [(⟨k, e, r, l⟩ : Ln)] := List.tail_append_of_ne_nil C
 rw [G, Qad (by omega), ← D]
 exact Ent.trans (B := pt b (ag [.slice K (M.length + 1 - 1) y, .bool true] 276) :: osl 278 7 (.slice K (M.length + 1 - 1) y) ((M ++ [(⟨k, e, r, l⟩ : Ln)]).tail.flatMap dh) :: osl 3 1 (.slice o j.length p) (j.flatMap iI) :: R) inferInstance (t9 (b := b) (by simp))
 refine bu () ?_ (he := ?_)
 trivial
 rw [G, Qaa (by omega)]
 have t : (M.flatMap dh ++ dh (⟨k, e, r, l⟩ : Ln)) = (M ++ [(⟨k, e, r, l⟩ : Ln)]).flatMap dh := by grind
 rw [t]
 exact Ent.trans (B := pt b (ag [.slice s (M.length + 1) h, .bool true] 276) :: osl 278 7 (.slice s (M.length + 1) h) ((M ++ [(⟨k, e, r, l⟩ : Ln)]).flatMap dh) :: osl 3 1 (.slice o j.length p) (j.flatMap iI) :: R) inferInstance (t9 (b := b) (by simp))
 intro _ _
 refine aw ?_
 refine ah (ap call446 (a2t b (kV k L) (⟨k, e, r, l⟩ : Ln) (by simp; omega) A r l)) ?_
 refine az ?_
 exact ⟨_, ⟨o, p, rfl, rfl⟩, IO⟩
def qP (pg : List Pl) (n : Int) : Int := if jg n then (if aK pg n then 0 else 3) else 1
def eZ (pg : List Pl) (n : Int) : List Pl := if aK pg n then pg.set n.toNat (0, 0) else pg
theorem L8 {pg n} (h : aK pg n = true) : jg n = true := by
 grind [aK]
theorem L9 {pg n} (h : Pgs pg) : Pgs (eZ pg n) := by
 unfold eZ; split
 refine ⟨by simp [h.len], fun m b a => ?_⟩
 unfold eG at a ⊢
 by_cases e : n.toNat = m
 grind
 simp only [Qas, QaW e] at a ⊢
 have := h.ok m b
 unfold eG at this
 simp only [Qas] at this
 exact this a
 exact h
theorem La b pg (h : Pgs pg) n : sQ W0 122 [pQ b, iQ n] (pt b (bB pg) :: R) (iQ (qP pg n)) (pt b (bB (eZ pg n)) :: R) := by
 have g := h.len
 refine am O3 ntmps122 ?_
 refine ah (ap zq (vI b pg h)) ?_
 refine ah (aC Cn (xn n)) ?_
 refine ai (fun d => ?_) fun d => ?_
 refine ac ?_
 have c : jg n = false := by grind
 have a : aK pg n = false := by simp [aK, c]
 exact ⟨_, ⟨by simp [aN, qP, c], by rw [eZ, a, Qaa (by decide)]⟩, IO⟩
 have c : jg n = true := by grind
 refine ah (ap GD (Aa b pg h n)) ?_
 refine ai (fun e => ?_) fun e => ?_
 refine ac ?_
 have a : aK pg n = false := by grind
 exact ⟨_, ⟨by simp [aN, qP, c, a], by rw [eZ, a, Qaa (by decide)]⟩, IO⟩
 have a : aK pg n = true := by grind
 obtain ⟨i, rfl, f⟩ := kM c
 refine aa (ew f) ?_
 refine ar (iH (by grind [Ir]) (A9 (p := (0, 0)) (by omega))) ?_
 refine ac ?_
 rw [show eZ pg i = pg.set i (0, 0) by rw [eZ, Qad a, Qae]]
 exact ⟨_, ⟨by simp [aN, qP, c, a], rfl⟩, IO⟩
theorem a2y {a : List Pl} {i} (h : a.length = 12) (c : i < 12) : d7 ((a.map ku ++ a.flatMap fV).set (i * 1) (.bool false)) (12 + i * 2) (fV (0, 0)) = (a.set i (0, 0)).map ku ++ (a.set i (0, 0)).flatMap fV := by
 have b : ku (0, 0) = .bool false := by rfl
 rw [QaB, Qca _ _ (by simp; omega), ← b, ← List.map_set]
 have e := DC (fV (0, 0)) ((a.set i (0, 0)).map ku) (a.flatMap fV) (i * 2)
 rw [show ((a.set i (0, 0)).map ku).length = 12 by simp [h]] at e
 rw [e]
 have := A9 (pg := a) (sp := []) (n := i) (p := (0, 0)) (by omega)
 rw [Qav, Qav] at this
 rw [this]
theorem Lb b pg (h : Pgs pg) n : sQ W0 125 [pQ b, iQ n] (pt b (dJ pg) :: R) (iQ (qP pg n)) (pt b (dJ (eZ pg n)) :: R) := by
 have g := h.len
 refine am func125 ntmps125 ?_
 refine ah (aC O6 (DD n)) ?_
 refine ai (fun j => ?_) fun j => ?_
 refine ac ?_
 have d : jg n = false := by grind
 have c : aK pg n = false := by simp [aK, d]
 exact ⟨_, ⟨by simp [aN, qP, d], by rw [eZ, c, Qaa (by decide)]⟩, IO⟩
 have d : jg n = true := by grind
 obtain ⟨i, a, e⟩ := kM d
 have f := Dz (pg := pg) (sp := pg.flatMap fV) (i := i) (by omega)
 have k : aK pg n = decide (eG pg i ≠ (0, 0)) := by grind [aK]
 refine aa (eW zl iT rfl rfl a e (by first | exact Qac _ | rfl)) ?_
 refine ae rfl (cu nk rfl (cV (vs := [ku (eG pg i)]) f rfl 0 _ rfl)) ?_
 refine ae rfl (rn rfl) (aL (aH ?_))
 refine aA rfl (fun l => ?_) fun l => ?_
 have c : aK pg n = false := by grind
 refine aw ?_
 refine ac ?_
 exact ⟨_, ⟨by simp [aN, qP, d, c], by rw [eZ, c, Qaa (by decide)]⟩, IO⟩
 have c : aK pg n = true := by grind
 refine aw ?_
 refine aa (eW zl iT rfl rfl a e (by first | exact Qac _ | rfl)) ?_
 refine ar (dq (by grind) rfl) ?_
 refine aa (eW Gp pW rfl rfl a e (by first | exact Qac _ | rfl)) ?_
 refine ar (iH (by rw [Qap, Qaf, Qax, cJ ug]; omega) (a2y g e)) ?_
 refine ac ?_
 rw [show eZ pg n = pg.set i (0, 0) by rw [eZ, Qad c, a, Qae]]
 exact ⟨_, ⟨by simp [aN, qP, d, c], rfl⟩, IO⟩
theorem Bi {fr pg va a} : jj fr pg va a = true ↔ eA fr.length pg a (va / 1024) = true ∧ nW (dY fr pg a (va / 1024)) = 0 := by simp [jj]
structure WkOkM (fr : List aB) (pg : List Pl) (root : Int) (va : Nat) : Prop where
  lim : va < 16384
  rb : jj fr pg va root = true
  lt : eA fr.length pg (eK fr pg va root) (va / 64) = true
  eq : cn fr pg root va = ⟨nX (dY fr pg (eK fr pg va root) (va / 64)), nY (dY fr pg (eK fr pg va root) (va / 64)), nZ (dY fr pg (eK fr pg va root) (va / 64)), 0, root, eK fr pg va root⟩
  lf : ny (dY fr pg (eK fr pg va root) (va / 64)) = 0
theorem Bj {fr pg root va} (h : (cn fr pg root va).fault = 0) : WkOkM fr pg root va := by
 unfold cn at h
 by_cases c : va < 16384
 rw [Qad c] at h
 by_cases a : jj fr pg va root = true
 rw [Qad a] at h
 have d := Bi.1 a
 simp only [fB, pJ] at h
 by_cases b : eA fr.length pg (eK fr pg va root) (va / 64) = true
 rw [Qad b] at h
 refine ⟨c, a, b, ?_, h⟩
 rw [cn, Qad c, Qad a]
 simp only [fB, pJ]
 rw [Qad b, kO, Qad d.1]
 simp only [nD]
 rw [show ny (dY fr pg (eK fr pg va root) (va / 64)) = 0 from h]
 grind
 rw [Qaa a] at h
 simp only [fB, kO] at h
 by_cases b : eA fr.length pg root (va / 1024) = true
 rw [Qad b] at h
 exact absurd (Bi.2 ⟨b, h⟩) a
 grind
 grind [fB]
def yp (fr : List aB) (pg : List Pl) (fr' : List aB) (pg' : List Pl) (t : Int) : Prop := ∀ i, eA fr'.length pg' t i = eA fr.length pg t i ∧ dY fr' pg' t i = dY fr pg t i
theorem a2z {fr fr' pg pg' root va} (h : WkOkM fr pg root va) (a : yp fr pg fr' pg' root) (b : yp fr pg fr' pg' (eK fr pg va root)) : cn fr' pg' root va = cn fr pg root va := by
 have c : eK fr' pg' va root = eK fr pg va root := by unfold eK; rw [(a _).1, (a _).2]
 have d : jj fr' pg' va root = jj fr pg va root := by unfold jj; rw [(a _).1, (a _).2]
 have e : ∀ s, kO fr' pg' va root s = kO fr pg va root s := fun s => by unfold kO; rw [(a _).1, (a _).2]
 rw [cn, cn, Qad h.lim, Qad h.lim, d, h.rb, Qad rfl, Qad rfl]
 simp only [fB]
 rw [c, e]
 unfold pJ
 rw [(b _).1, (b _).2]
theorem Lc {t i j} (h : j < 4) : (64 * t + 4 * (i % 16) + j) / 64 = t := by omega
theorem F2 {a : List aB} {pg t i} (h : eA a.length pg t i = true) : aK pg t = true := by
 obtain ⟨c, b⟩ := qw.1 h
 obtain ⟨k, rfl⟩ : ∃ k : Nat, t = (k : Int) := ⟨t.toNat, by omega⟩
 have := (sK.1 b).2 0 (by decide)
 rw [show gW (gk (k : Int) i + 0) = (k : Int) by rw [show gk (k : Int) i = 64 * k + 4 * (i % 16) from rfl, gW, Lc (by decide)]] at this
 exact (xw.1 this).1
theorem F3 {fr fr' pg pg' t} (m : fr'.length = fr.length) (q : aK pg' t = aK pg t) (g : bF pg' t = bF pg t) (r : aK pg t = true → ∀ o : Nat, o < 64 → jR fr' (bF pg t).1 o 1 = jR fr (bF pg t).1 o 1) : yp fr pg fr' pg' t := by
 intro i
 by_cases s : 0 ≤ t ∧ t < 8
 · obtain ⟨k, rfl⟩ : ∃ k : Nat, t = (k : Int) := ⟨t.toNat, by omega⟩
   have f : gk (k : Int) i = 64 * k + 4 * (i % 16) := rfl
   have c : ∀ j, j < 4 → gW (gk (k : Int) i + j) = (k : Int) := fun j a => by
    rw [f, gW, Lc a]
   have h : iL fr'.length pg' (gk (k : Int) i) 4 = iL fr.length pg (gk (k : Int) i) 4 := by
    have e : ∀ j, j < 4 → jh fr'.length pg' (gW (gk (k : Int) i + j)) = jh fr.length pg (gW (gk (k : Int) i + j)) := fun j a => by
     rw [c j a, jh, jh, q, g, m]
    unfold iL
    congr 1
    apply Qaz.2
    unfold oM
    constructor
    grind
    grind
   have l : eA fr'.length pg' (k : Int) i = eA fr.length pg (k : Int) i := by grind [eA]
   refine ⟨l, ?_⟩
   unfold dY
   rw [l]
   by_cases b : eA fr.length pg (k : Int) i = true
   case neg => rw [Qaa b, Qaa b]
   have u : i9 fr' pg' (gk (k : Int) i) 4 = i9 fr pg (gk (k : Int) i) 4 := by
    unfold i9
    apply List.map_congr_left
    intro j a
    have a := QbE.1 a
    unfold oN mM
    rw [c j a, g]
    exact r (F2 b) _ (Qce _ (by decide))
   rw [u]
 have d : ∀ n p, eA n p t i = false := fun n p => by unfold eA; rw [Qal s, QcS]
 refine ⟨by rw [d, d], ?_⟩
 unfold dY; rw [d, d, Qaa (by decide), Qaa (by decide)]
theorem a2A {fr f f' off w o k x} (h : f' ≠ f) : jR (eJ fr f off w x) f' o k = jR fr f' o k := by
 unfold eJ
 split
 rename_i a
 simp only [kL, Qao] at a
 obtain ⟨i, rfl, b⟩ := qq a.1
 unfold jR
 rw [Qap]
 split
 grind [qq]
 rfl
 rfl
structure LOk (fr : List aB) (pg : List Pl) (d : Nat) (x : Ln) : Prop where
  own : (0 ≤ x.rt ∧ x.rt < 8) ∧ (0 ≤ x.lf ∧ x.lf < 8)
  at_ : aK pg x.e.1 = true ∧ (bF pg x.e.1).1 = x.e.2.1
  al : ∀ k, jw k = true → eE x.e.2.2 (iK k) = true → fp pg x.e.1 k = 0
  r : 0 ≤ x.e.2.2 ∧ x.e.2.2 < 16
  wk : Nat.testBit d x.rt.toNat = false → Nat.testBit d x.lf.toNat = false → ∀ va, va < 16384 → ((va / 64 : Nat) : Int) = x.k.2 → WkOkM fr pg x.k.1 va ∧ x.k.1 = x.rt ∧ eK fr pg va x.k.1 = x.lf ∧ (cn fr pg x.k.1 va).on = true ∧ (cn fr pg x.k.1 va).p = x.e.1 ∧ ∀ c, c = 1 ∨ c = 2 ∨ c = 4 ∨ c = 8 → eE x.e.2.2 c = true → eE (cn fr pg x.k.1 va).r c = true
theorem a2B {pg pg' n} (b : aK pg n = true) (a : aK pg' n = true) (c : bF pg' n = bF pg n) k : fp pg' n k = fp pg n k := by
 grind [bF, fp]
theorem LOk.move {fr fr' pg pg' d d' x} (h : LOk fr pg d x) (l : aK pg' x.e.1 = true) (m : bF pg' x.e.1 = bF pg x.e.1)
    (n : ∀ t, t = x.rt ∨ t = x.lf → Nat.testBit d' t.toNat = false → Nat.testBit d t.toNat = false ∧ (aK pg t = true → yp fr pg fr' pg' t)) : LOk fr' pg' d' x := by
 refine ⟨h.own, ⟨l, by rw [m]; exact h.at_.2⟩, fun k b f => ?_, h.r, fun s u o g b => ?_⟩
 rw [a2B h.at_.1 l m]; exact h.al k b f
 obtain ⟨v, w⟩ := n x.rt (.inl rfl) s
 obtain ⟨y, z⟩ := n x.lf (.inr rfl) u
 obtain ⟨a, i, j, A, B, C⟩ := h.wk v y o g b
 have e := a2z a (by rw [i]; exact w (by rw [← i]; exact F2 (Bi.1 a.rb).1)) (by rw [j]; exact z (by rw [← j]; exact F2 a.lt))
 have p : (cn fr' pg' x.k.1 o).fault = 0 := by rw [e, a.eq]
 refine ⟨Bj p, i, ?_, by rw [e]; exact A, by rw [e]; exact B, fun c D f => by rw [e]; exact C c D f⟩
 have q := (Bj p).eq
 rw [e, a.eq] at q
 have := Qai WS.leaf q
 rw [← j]; exact this.symm
theorem LOk.clean {fr pg d x} (h : LOk fr pg d x) (a : ∀ n ∈ ji d 12, x.thr n = false) : LOk fr pg 0 x := by
 refine ⟨h.own, h.at_, h.al, h.r, fun _ _ => h.wk ?_ ?_⟩
 rw [← Qau]; intro q
 have := a x.rt.toNat (by rw [ji, QaD, QbE]; exact ⟨by have := h.own; omega, q⟩)
 rw [← Qau, t8] at this
 exact this (.inl (by have := h.own; omega))
 rw [← Qau]; intro q
 have := a x.lf.toNat (by rw [ji, QaD, QbE]; exact ⟨by have := h.own; omega, q⟩)
 rw [← Qau, t8] at this
 exact this (.inr (by have := h.own; omega))
theorem LOk.nar {fr pg d x} (h : LOk fr pg d x) : LOk fr pg d x.nar := by
 have m : ∀ c, c = 1 ∨ c = 2 ∨ c = 4 ∨ c = 8 → eE x.nar.e.2.2 c = true → eE x.e.2.2 c = true := fun c a b => by
  obtain ⟨n, g⟩ : ∃ n : Nat, x.e.2.2 = (n : Int) := ⟨x.e.2.2.toNat, by have := h.r; omega⟩
  have i : n < 16 := by have := h.r; omega
  have o : x.nar.e.2.2 = io x.e.2.2 := rfl
  rw [o, g] at b
  rw [g]
  have j : ∀ n : Nat, n < 16 → ∀ c : Int, c = 1 ∨ c = 2 ∨ c = 4 ∨ c = 8 → eE (io (n : Int)) c = true → eE (n : Int) c = true := by
   intro n g c a
   have : n = 0 ∨ n = 1 ∨ n = 2 ∨ n = 3 ∨ n = 4 ∨ n = 5 ∨ n = 6 ∨ n = 7 ∨ n = 8 ∨ n = 9 ∨ n = 10 ∨ n = 11 ∨ n = 12 ∨ n = 13 ∨ n = 14 ∨ n = 15 := by omega
   rcases this with rfl | rfl | rfl | rfl | rfl | rfl | rfl | rfl | rfl | rfl | rfl | rfl | rfl | rfl | rfl | rfl <;> rcases a with rfl | rfl | rfl | rfl <;> decide
  exact j n i c a b
 refine ⟨h.own, h.at_, fun k f b => h.al k f (m _ ?_ b), ?_, fun p q s l f => ?_⟩
 unfold iK
 have := Qar f
 rcases this with rfl | rfl | rfl
 omega
 omega
 omega
 show 0 ≤ io x.e.2.2 ∧ io x.e.2.2 < 16
 have := h.r
 unfold io; split
 rename_i t
 have := Qar t
 omega
 exact h.r
 obtain ⟨u, v, w, y, z, A⟩ := h.wk p q s l f
 exact ⟨u, v, w, y, z, fun c a b => A c a (m c a b)⟩
structure PlOk (n : Nat) (pg : List Pl) : Prop where
  rng : ∀ t, aK pg t = true → (bF pg t).1 < (n : Int)
  inj : ∀ s t, aK pg s = true → aK pg t = true → (bF pg s).1 = (bF pg t).1 → s = t
structure MOk (fr : List aB) (pg : List Pl) (d : Nat) (L : List Ln) (TL : List It) : Prop where
  F : cB fr
  dl : d < 4096
  P : Pgs pg
  pl : PlOk fr.length pg
  ti : TI L TL
  ln : ∀ x ∈ L, LOk fr pg d x
theorem MOk.save {fr pg d d' L TL} (h : MOk fr pg d L TL) {p} (i : aK pg p = true) off w x (b : d' < 4096)
    (j : ∀ t, Nat.testBit d' t = false → Nat.testBit d t = false) (c : ∀ y ∈ L, ∀ t, t = y.rt ∨ t = y.lf → Nat.testBit d' t.toNat = false → t ≠ p) : MOk (eJ fr (bF pg p).1 off w x) pg d' L TL := by
 refine ⟨A8 h.F, b, h.P, by rw [xm]; exact h.pl, h.ti, fun y f => ?_⟩
 have a := h.ln y f
 by_cases k : Nat.testBit d' y.rt.toNat = false ∧ Nat.testBit d' y.lf.toNat = false
 refine a.move a.at_.1 rfl fun t l g => ⟨j _ g, fun _ => ?_⟩
 refine F3 xm rfl rfl fun q o s => ?_
 apply a2A
 intro e
 exact c y f t l g (h.pl.inj _ _ q i e)
 refine ⟨a.own, a.at_, a.al, a.r, fun m n => absurd ⟨m, n⟩ k⟩
abbrev cD (pv bt bs : Nat) : Obj := ag [.pointer (some ⟨pv, 0, none⟩), .pointer (some ⟨bt, 0, none⟩), .pointer (some ⟨bs, 0, none⟩)] 153
theorem wi bm pv bt bs : sQ W0 64 [pQ bm] (pt bm (cD pv bt bs) :: R) (.bool false) (pt bm (cD pv bt bs) :: R) := by
 refine am func64 ntmps64 ?_
 refine cy rfl rfl rfl (fun a => ?_) fun a => ?_
 cases a
 refine aw ?_
 exact ac ao
def nO (ks : List dk) (T : List It) : List It := ks.foldl (fun T k => jX k T) T
theorem Ld {a} : ∀ {T : List It} {y : It}, y ∈ nO a T → y ∈ T ∧ y.key ∉ a := by
 induction a with
 | nil => intro T y h; exact ⟨h, by simp⟩
 | cons k a b =>
  intro T y h
  obtain ⟨c, d⟩ := b (T := jX k T) h
  obtain ⟨e, f⟩ := t6.1 c
  refine ⟨e, fun q => ?_⟩
  rcases QaO.1 q with q | q
  exact f q
  exact d q
theorem F4 {ks} : ∀ {T : List It}, (nO ks T).length ≤ T.length := by
 induction ks with
 | nil => intro T; exact Qam _
 | cons k ks a => intro T; exact Qba (a (T := jX k T)) (B7 k T)
theorem a2C ks k T : nO (ks ++ [k]) T = jX k (nO ks T) := by simp [nO, List.foldl_append]
theorem Le bm pv bt bs its tr tw now T (r : Rep its now T) (A : T.length ≤ 100) a c ks (C : ks.length ≤ 1000) : sP W0 149 [pQ bm, .slice a ks.length c] (pt bm (cD pv bt bs) :: aU bt (its, [tr, tw, .bool true]) :: osl 51 2 (.slice a ks.length c) (ks.flatMap gY) :: R) (fun v B => v = .tuple #[] ∧ ∃ b, B = pt bm (cD pv bt bs) :: aU bt (b, [tr, tw, .bool true]) :: osl 51 2 (.slice a ks.length c) (ks.flatMap gY) :: R ∧ Rep b now (nO ks T)) := by
 refine am func149 ntmps149 ?_
 refine d4 (fun X : Nat × List It => X.1 ≤ ks.length ∧ Rep X.2 now (nO (ks.take X.1) T)) (fun X => [(0, pQ bm), (6, .slice a ks.length c), (7, iQ (ks.length : Nat)), (8, iQ X.1)]) (fun X => pt bm (cD pv bt bs) :: aU bt (X.2, [tr, tw, .bool true]) :: osl 51 2 (.slice a ks.length c) (ks.flatMap gY) :: R) (fun X => ks.length - X.1) (0, its) ?_ ?_
 exact ⟨QaF _, r⟩
 intro ⟨i, d⟩ ⟨s, j⟩
 dsimp only at s j ⊢
 refine aw ?_
 refine ai (fun t => ?_) fun t => ?_
 have e : i < ks.length := by omega
 refine m9 (E := 51) (sz := 2) (a := a) (c := c) (n := ks.length) gY ks (fun _ => rfl) (by decide) rfl (fun u => ?_)
 obtain ⟨g, o, l, q⟩ := u.at_ e
 obtain ⟨k, f⟩ : ∃ k, ks[i] = k := ⟨_, rfl⟩
 have w : ks.take (i + 1) = ks.take i ++ [k] := by rw [Qan e, f]
 have x := F4 (ks := ks.take i) (T := T)
 rw [f] at q
 refine aw ?_
 refine aa (eB Gt rh rfl l rfl rfl e (by first | exact Qac _ | rfl)) ?_
 refine aa (df q.weak) ?_
 refine bj fun y => ?_
 refine ar aF ?_
 refine bq [bm, y] 6 fun m => ?_
 refine aj 0 5 m ?_
 refine cj 5 (ap Ou (EQ bt d tr now (nO (ks.take i) T) k j (by omega) tw)) ?_; clear m
 rintro _ D ⟨rfl, h, p, z⟩
 subst p
 refine ⟨aT, fun m => ?_⟩
 refine aJ ?_
 refine aa bY ?_
 refine bR (i + 1, h) ?_
 grind [a2C]
 refine bX (.inr rfl) .nil ?_
 obtain rfl : i = ks.length := by omega
 rw [Qby] at j
 exact ⟨_, ⟨rfl, d, rfl, j⟩, IO⟩
@[reducible] def asV (bm : Nat) (on : Bool) (root : Int) (user : Bool) (va : Nat) (kind : Int) : List Value := [.pointer (some ⟨bm, 0, none⟩), .bool on, .int .i64 root, .bool user, .int .u32 va, .int .i64 kind]
abbrev iR (bm : Nat) (on : Bool) (root : Int) (user : Bool) (va : Nat) (kind : Int) : Obj := ag (asV bm on root user va kind) 451
def e8 (root : Int) (va : Nat) : dk := (root, ((va / 64 : Nat) : Int))
theorem rS ba bm on root user va (b : va < 4294967296) kind : sQ W0 378 [pQ ba] (pt ba (iR bm on root user va kind) :: R) (.agg (gY (e8 root va)).toArray) (pt ba (iR bm on root user va kind) :: R) := by
 refine am func378 ntmps378 ?_
 refine bj fun c => ?_
 refine bq [ba] 13 fun a => ?_
 refine aj 0 9 a ?_
 refine ax 9 a (nr rfl rfl (by decide) ((Qai (IntKind.wrap .u32) (ql va 64)).trans (cW (by omega)))) ?_
 refine ax 10 a (bD (co (by omega))) ?_
 refine aj 11 1 a ?_
 refine cp 12 aF fun a => ?_
 refine aJ ?_
 exact aV (.cons (bi C6 rh rfl rfl) .nil) ao
def pd (e : jD) (kind : Int) (user : Bool) : Bool := jw kind && (eE e.2.2 (iK kind) && (!user || eE e.2.2 8)) && true
theorem Lf ba bm on root user va kind (e : jD) : sQ W0 379 [pQ ba, .agg (mZ e).toArray] (pt ba (iR bm on root user va kind) :: R) (.bool (pd e kind user)) (pt ba (iR bm on root user va kind) :: R) := by
 refine am func379 ntmps379 ?_
 refine bz fun b => ?_
 refine bq [b, ba] 16 fun a => ?_
 refine aj 0 14 a ?_
 refine cg 14 (aC call376 (I9 true e.2.2 e.1 kind user)) fun a => ?_
 refine aj 15 1 a ?_
 refine aJ ?_
 exact ac ao
@[reducible] def Lg (p f : Int) (o : Nat) (fast : Bool) : List Value := [.int .i64 p, .int .i64 f, .int .i64 (o : Nat), .bool fast]
theorem Lh ba bm on root user va (b : va < 4294967296) kind (e : jD) fast : sQ W0 380 [pQ ba, .agg (mZ e).toArray, .bool fast] (pt ba (iR bm on root user va kind) :: R) (.agg (Lg e.1 e.2.1 (va % 64) fast).toArray) (pt ba (iR bm on root user va kind) :: R) := by
 refine am func380 ntmps380 ?_
 refine bz fun c => ?_
 refine bj fun d => ?_
 refine bq [c, ba] 13 fun a => ?_
 refine aj 0 8 a ?_
 refine ax 8 a (eH rfl rfl (IW b)) ?_
 refine ax 9 a (bD (co (by omega))) ?_
 refine aj 10 2 a ?_
 refine cp 12 aF fun a => ?_
 refine aJ ?_
 exact aV (.cons (bi g8 eT rfl rfl) .nil) ao
theorem Lj (l : List Ln) : l.flatMap uI = (l.map Ln.k).flatMap gY := by rw [List.flatMap_map]
theorem MOk.drop {fr pg d L T} (h : MOk fr pg d L T) p : MOk fr pg d (L.filter fun x => !p x) (nO ((L.filter p).map Ln.k) T) :=
  ⟨h.F, h.dl, h.P, h.pl, h.ti.drop p fun y b => by
 obtain ⟨c, f⟩ := Ld b
 exact ⟨c, fun x a g e => f (Qbd.2 ⟨x, QaD.2 ⟨a, g⟩, e.symm⟩)⟩, fun x a => h.ln x (QaD.1 a).1⟩
theorem MOk.clean {fr pg d L T} (h : MOk fr pg d L T) (b : ∀ x ∈ L, ∀ n ∈ ji d 12, x.thr n = false) : MOk fr pg 0 L T :=
  ⟨h.F, by decide, h.P, h.pl, h.ti, fun x a => (h.ln x a).clean (b x a)⟩
theorem a2E l : vM l = l.flatMap fun n => [xv n] := by
 induction l with
 | nil => rfl
 | cons n l a => rw [QaQ, ← a]; rfl
theorem Lk bm pv bt bs ps pm d its tr tw now room T L (hR : Rep its now T) (hT : T.length ≤ room) (hr : room ≤ 4) (hd : d < 4096) (I : List Ln → List It → Prop) (hIl : ∀ L T, I L T → L.length ≤ 1000) (hId : ∀ L T p, I L T → I (L.filter fun x => !p x) (nO ((L.filter p).map Ln.k) T)) (h : I L T) : sP W0 65 [pQ bm] (pt bm (cD pv bt bs) :: aU bt (its, [tr, tw, .bool true]) :: bG bs L :: pt pv (bW ps pm d) :: R) (fun v B => v = .tuple #[] ∧ ∃ its' T' L', B = pt bm (cD pv bt bs) :: aU bt (its', [tr, tw, .bool true]) :: bG bs L' :: pt pv (bW ps pm 0) :: R ∧ Rep its' now T' ∧ T'.length ≤ room ∧ I L' T' ∧ (∀ x ∈ L', ∀ n ∈ ji d 12, x.thr n = false) ∧ (∀ x ∈ L', x ∈ L) ∧ (ji d 12 = [] → L' = L)) := by
 obtain ⟨ds, hds⟩ : ∃ l, ji d 12 = l := ⟨_, rfl⟩
 have hdl : ds.length ≤ 12 := by grind [II]
 refine am func65 ntmps65 ?_
 refine aD rfl (ap call78 (IJ pv ps pm d hd)) ?_
 rintro _ B_ ⟨ad, cd, rfl, hB_⟩
 subst hB_
 rw [hds]
 refine aw ?_
 refine d4 (fun X : Nat × List It × List It × List Ln => X.1 ≤ ds.length ∧ Rep X.2.1 now X.2.2.1 ∧ X.2.2.1.length ≤ room ∧ I X.2.2.2 X.2.2.1 ∧ (∀ x ∈ X.2.2.2, ∀ n ∈ ds.take X.1, x.thr ((n : Nat) : Int) = false) ∧ (∀ x ∈ X.2.2.2, x ∈ L) ∧ (X.1 = 0 → X.2.2.2 = L)) (fun X => [(0, pQ bm), (8, .slice ad ds.length cd), (9, iQ (ds.length : Nat)), (10, iQ X.1)]) (fun X => pt bm (cD pv bt bs) :: aU bt (X.2.1, [tr, tw, .bool true]) :: bG bs X.2.2.2 :: pt pv (bW ps pm 0) :: osl 3 1 (.slice ad ds.length cd) (vM ds) :: R) (fun X => ds.length - X.1) (0, its, T, L) ?_ ?_
 grind
 intro ⟨i, its1, T1, L1⟩ ⟨hi, hR1, hT1, h1, hc1, hs1, hz1⟩
 dsimp only at hi hR1 hT1 h1 hc1 hs1 hz1 ⊢
 refine aw ?_
 refine ai (fun c1 => ?_) fun c1 => ?_
 have hi1 : i < ds.length := by omega
 refine m9 (E := 3) (sz := 1) (a := ad) (c := cd) (n := ds.length) (fun n => [xv n]) ds (fun _ => rfl) (by decide) (a2E ds) (fun hs => ?_)
 obtain ⟨g, o, hga, hc⟩ := hs.at_ hi1
 obtain ⟨q, hq⟩ : ∃ q, ds[i] = q := ⟨_, rfl⟩
 have htk : ds.take (i + 1) = ds.take i ++ [q] := by rw [Qan hi1, hq]
 have hll := hIl L1 T1 h1
 obtain ⟨ks, hks⟩ : ∃ ks, (L1.filter fun x => x.thr (q : Int)).map Ln.k = ks := ⟨_, rfl⟩
 have hkl : (L1.filter fun x => x.thr (q : Int)).length = ks.length := by grind
 have hkn : ks.length ≤ 1000 := by grind
 have hdr := hId L1 T1 (fun x => x.thr (q : Int)) h1
 rw [hks] at hdr
 rw [hq] at hc
 refine aw ?_
 refine aa (eB ek aR rfl hga rfl rfl hi1 (by first | exact Qac _ | rfl)) ?_
 refine aa (aE (bC.weak hc 0 _ rfl)) ?_
 refine aD rfl (ap call150 (a19 bs L1 (by omega) (q : Int))) ?_
 rintro _ B_ ⟨aw, cw, rfl, hB_⟩
 subst hB_
 rw [Lj, hks, hkl]
 refine aD rfl (cM call149 (Le bm pv bt bs its1 tr tw now T1 hR1 (by omega) aw cw ks hkn)) ?_
 rintro _ B_ ⟨rfl, its2, hB_, hR2⟩
 subst hB_
 refine au 4 ?_
 refine aa bY ?_
 refine bR (i + 1, its2, nO ks T1, L1.filter fun x => !x.thr (q : Int)) ?_
 grind [Qba, F4]
 refine bX (.inr rfl) .nil ?_
 obtain rfl : i = ds.length := by omega
 rw [Qby] at hc1
 exact ⟨_, ⟨rfl, its1, T1, L1, rfl, hR1, hT1, h1, hc1, hs1, fun q => hz1 (by rw [q]; rfl)⟩, IO⟩
theorem F5 bm pv bt bs ps pm d its tr tw now room T L fr pg (f : Rep its now T) (g : T.length ≤ room) (i : room ≤ 4) (h : MOk fr pg d L T) : sP W0 65 [pQ bm] (pt bm (cD pv bt bs) :: aU bt (its, [tr, tw, .bool true]) :: bG bs L :: pt pv (bW ps pm d) :: R) (fun v B => v = .tuple #[] ∧ ∃ a e c, B = pt bm (cD pv bt bs) :: aU bt (a, [tr, tw, .bool true]) :: bG bs c :: pt pv (bW ps pm 0) :: R ∧ Rep a now e ∧ e.length ≤ room ∧ MOk fr pg 0 c e ∧ (∀ x ∈ c, x ∈ L) ∧ (ji d 12 = [] → c = L)) :=
  ge (Lk bm pv bt bs ps pm d its tr tw now room T L f g i h.dl (MOk fr pg d) (fun L T h => Qba h.ti.len (by decide)) (fun L T p h => h.drop p) h) fun v B j => by
 obtain ⟨rfl, b, k, l, rfl, m, n, o, q, r⟩ := j
 exact ⟨_, ⟨rfl, b, k, l, rfl, m, n, o.clean q, r⟩, ent_refl⟩
def td : Option Ln → jD
 | none => (0, 0, 0)
 | some x => x.e
theorem te k L : yn k L = .tuple #[.agg (mZ (td (kU k L))).toArray, .bool (kU k L).isSome] := by
 unfold yn
 cases kU k L <;> rfl
theorem TI.sub' {L T T'} (h : TI L T) (a : ∀ y ∈ T', y ∈ T) : TI L T' := ⟨h.keys, h.len, h.nowr, fun y b => h.sub y (a y b)⟩
theorem a2F bm pv bt bs its tr tw now room T L (N : Rep its now T) (Z : T.length ≤ room) (hr : room ≤ 4) (hl : L.length ≤ 32) : sP W0 425 [pQ bm] (pt bm (cD pv bt bs) :: aU bt (its, [tr, tw, .bool true]) :: bG bs L :: R) (fun v B => v = .tuple #[] ∧ ∃ m F, B = pt bm (cD pv bt bs) :: aU bt (m, [tr, tw, .bool true]) :: bG bs L :: R ∧ Rep m now F ∧ F.length ≤ room ∧ ∀ y ∈ F, y ∈ T ∧ (kU y.key L).isSome = true) := by
 refine am func425 ntmps425 ?_
 refine aD rfl (ap call67 (KY bt its tr tw now T N (by omega))) ?_
 rintro _ D ⟨u, w, rfl, d⟩
 subst d
 refine aw ?_
 refine d4 (fun X : Nat × List It × List It => X.1 ≤ T.length ∧ Rep X.2.1 now X.2.2 ∧ X.2.2.length ≤ room ∧ ∀ y ∈ X.2.2, y ∈ T ∧ (y ∈ T.take X.1 → (kU y.key L).isSome = true)) (fun X => [(0, pQ bm), (10, .slice u T.length w), (11, iQ (T.length : Nat)), (12, iQ X.1)]) (fun X => pt bm (cD pv bt bs) :: aU bt (X.2.1, [tr, tw, .bool true]) :: bG bs L :: osl 53 5 (.slice u T.length w) (T.flatMap qM) :: R) (fun X => T.length - X.1) (0, its, T) ?_ ?_
 grind
 intro ⟨i, e, p⟩ ⟨O, h, j, r⟩
 dsimp only at O h j r ⊢
 refine aw ?_
 refine aA rfl (fun P => ?_) fun P => ?_
 refine au 2 ?_
 refine cF (fun X : List It × List It => Rep X.1 now X.2 ∧ X.2.length ≤ room ∧ ∀ y ∈ X.2, y ∈ T ∧ (y ∈ T.take (i + 1) → (kU y.key L).isSome = true)) (fun X => [(0, pQ bm), (10, .slice u T.length w), (11, iQ (T.length : Nat)), (12, iQ i)]) (fun X => pt bm (cD pv bt bs) :: aU bt (X.1, [tr, tw, .bool true]) :: bG bs L :: osl 53 5 (.slice u T.length w) (T.flatMap qM) :: R) ?_ ?_
 refine au 2 ?_
 have s : i < T.length := by omega
 refine m9 (E := 53) (sz := 5) (a := u) (c := w) (n := T.length) qM T F0 (by decide) rfl (fun Q => ?_)
 obtain ⟨g, o, G, K⟩ := Q.at_ s
 obtain ⟨x, M⟩ : ∃ x, T[i] = x := ⟨_, rfl⟩
 have A : T.take (i + 1) = T.take i ++ [x] := by rw [Qan s, M]
 rw [M] at K
 obtain ⟨gt, C⟩ : ∃ o, kU x.key L = o := ⟨_, rfl⟩
 refine aw ?_
 refine aa (eB wJ pU rfl G rfl rfl s (by first | exact Qac _ | rfl)) ?_
 refine aa (df K.weak) ?_
 refine bj fun H => ?_
 refine ar aF ?_
 refine bq [bm, H] 13 fun b => ?_
 refine aj 0 5 b ?_
 refine ax 5 b (df (ym (us := gY x.key) (ws := [iQ x.ep, iQ x.ef, iQ x.er]) (jN (k := 1) rfl) rfl)) ?_
 refine fG (is := [6, 10]) (by kernel_rfl) rfl ⟨?_, ?_, trivial⟩
 refine dy (ap v8 (tc bs L (by omega) x.key)) ?_; clear b
 rintro _ D ⟨rfl, d⟩
 subst d
 rw [te, C]
 refine ⟨aT, fun b => ?_⟩
 refine aj 7 3 b ?_
 refine cj 10 (dx oG) ?_; clear b
 rintro _ _ ⟨S, rfl, rfl⟩
 refine ⟨aT, fun b => ?_⟩
 refine cp 11 aF fun b => ?_
 refine aj 12 1 b ?_
 refine aJ ?_
 refine ai (fun I => ?_) fun I => ?_
 refine bq [bm, H] 7 fun b => ?_
 refine aj 0 5 b ?_
 refine ax 5 b (df (ym (us := gY x.key) (ws := [iQ x.ep, iQ x.ef, iQ x.er]) (jN (k := 1) rfl) rfl)) ?_
 refine cj 6 (ap Ou (EQ bt e tr now p x.key h (by omega) tw)) ?_; clear b
 rintro _ D ⟨rfl, f, d, l⟩
 subst d
 refine ⟨aT, fun b => ?_⟩
 refine aJ ?_
 refine bu (f, jX x.key p) ?_
 refine ⟨l, Qba (B7 _ _) j, fun y t => ?_⟩
 obtain ⟨J, U⟩ := t6.1 t
 refine ⟨(r y J).1, fun q => ?_⟩
 rw [A] at q
 rcases QaY.1 q with z | z
 grind
 grind
 refine bu (e, p) ?_
 grind
 skip
 refine dy (dx oG) ?_; clear b
 rintro _ _ ⟨S, rfl, rfl⟩
 refine ⟨aT, fun b => ?_⟩
 refine cj 6 (ap v8 (tc bs L (by omega) x.key)) ?_; clear b
 rintro _ D ⟨rfl, d⟩
 subst d
 rw [te, C]
 refine ⟨aT, fun b => ?_⟩
 refine aj 7 3 b ?_
 refine cp 11 aF fun b => ?_
 refine aj 12 1 b ?_
 refine aJ ?_
 refine ai (fun I => ?_) fun I => ?_
 refine bq [bm, H] 7 fun b => ?_
 refine aj 0 5 b ?_
 refine ax 5 b (df (ym (us := gY x.key) (ws := [iQ x.ep, iQ x.ef, iQ x.er]) (jN (k := 1) rfl) rfl)) ?_
 refine cj 6 (ap Ou (EQ bt e tr now p x.key h (by omega) tw)) ?_; clear b
 rintro _ D ⟨rfl, f, d, l⟩
 subst d
 refine ⟨aT, fun b => ?_⟩
 refine aJ ?_
 refine bu (f, jX x.key p) ?_
 refine ⟨l, Qba (B7 _ _) j, fun y t => ?_⟩
 obtain ⟨J, U⟩ := t6.1 t
 refine ⟨(r y J).1, fun q => ?_⟩
 rw [A] at q
 rcases QaY.1 q with z | z
 grind
 grind
 refine bu (e, p) ?_
 grind
 intro ⟨f, V⟩ ⟨l, W, Y⟩
 refine aw ?_
 refine aa bY ?_
 refine bR (i + 1, f, V) ?_
 grind
 refine aw ?_
 refine bX (.inr rfl) .nil ?_
 obtain rfl : i = T.length := by omega
 rw [Qby] at r
 exact ⟨_, ⟨rfl, e, p, rfl, h, j, fun y t => ⟨(r y t).1, (r y t).2 (r y t).1⟩⟩, IO⟩
def yq : Option It → jD
 | none => (0, 0, 0)
 | some y => y.ent
theorem F6 k T : yi k T = .tuple #[.agg (mZ (yq (nM k T))).toArray, .bool (nM k T).isSome] := by
 unfold yi
 cases nM k T <;> rfl
def oP : Option Ln → Int
 | none => 0
 | some x => x.e.1
def oF : Option Ln → Int
 | none => 0
 | some x => x.e.2.1
def oO (o : Option Ln) (va : Nat) : Nat := match o with
 | none => 0
 | some _ => va % 64
@[reducible] def F7 (o : Option Ln) (va : Nat) : List Value := [.int .i64 (oP o), .int .i64 (oF o), .int .i64 (oO o va : Nat), .bool o.isSome]
def F8 (L : List Ln) (k : dk) (kind : Int) (user : Bool) (o : Option Ln) : Prop := ∀ x, o = some x → x ∈ L ∧ x.k = k ∧ pd x.e kind user = true
theorem a2G ba bm pv bt bs on root user va (j : va < 4294967296) kind its room now T L (t : Rep its now T) (n : T.length ≤ room) (u : room ≤ 4) (w : now < 1000000) (D : TI L T) : sP W0 332 [pQ ba] (pt ba (iR bm on root user va kind) :: pt bm (cD pv bt bs) :: aU bt (its, cX room now) :: bG bs L :: R) (fun v B => ∃ o i A h, v = .tuple #[.agg (F7 o va).toArray, .bool o.isSome] ∧ F8 L (e8 root va) kind user o ∧ Rep i h A ∧ A.length ≤ room ∧ TI L A ∧ h ≤ now + 1 ∧ B = pt ba (iR bm on root user va kind) :: pt bm (cD pv bt bs) :: aU bt (i, cX room h) :: bG bs L :: R) := by
 obtain ⟨y, s⟩ : ∃ y, nM (e8 root va) T = y := ⟨_, rfl⟩
 have l := a1i (now := now) (k := e8 root va) (L := T)
 have m := D.getT now (e8 root va)
 refine am func332 ntmps332 ?_
 refine ez (dx tL) fun E => ?_
 refine au 3 ?_
 refine cF (fun X : Nat × List It × Nat => X.2.2 ≤ now + 1 ∧ Rep X.2.1 X.2.2 (t7 now (e8 root va) T)) (fun X => [(0, pQ ba), (2, pQ E), (4, .pointer (some ⟨X.1, 0, none⟩)), (5, .bool y.isSome)]) (fun X => pt E (ag [iQ 0, iQ 0, iQ 0, .bool false] 238) :: pt X.1 (ag (mZ (yq y)) 49) :: pt ba (iR bm on root user va kind) :: pt bm (cD pv bt bs) :: aU bt (X.2.1, cX room X.2.2) :: bG bs L :: R) ?_ ?_
 refine bq [ba, bm] 16 fun c => ?_
 refine aj 0 8 c ?_
 refine fG (is := [8, 13]) (by kernel_rfl) rfl ⟨?_, ?_, trivial⟩
 refine dy (ap tM (rS ba bm on root user va j kind)) ?_; clear c
 rintro _ C ⟨rfl, g⟩
 obtain rfl := g.symm
 refine ⟨aT, fun c => ?_⟩
 refine fG (is := [9, 13]) (by kernel_rfl) rfl ⟨?_, ?_, trivial⟩
 refine dy (ap Ov (EP bt its room now T (e8 root va) t n u w)) ?_; clear c
 rintro _ C ⟨rfl, a, b, d, g, f⟩
 subst g
 rw [F6, s]
 refine ⟨aT, fun c => ?_⟩
 refine aj 10 3 c ?_
 refine cj 13 (dx oG) ?_; clear c
 rintro _ _ ⟨p, rfl, rfl⟩
 refine ⟨aT, fun c => ?_⟩
 refine cp 14 aF fun c => ?_
 refine aj 15 1 c ?_
 refine aJ ?_
 exact bu (p, a, b) (⟨d, f⟩)
 skip
 refine dy (dx oG) ?_; clear c
 rintro _ _ ⟨p, rfl, rfl⟩
 refine ⟨aT, fun c => ?_⟩
 refine cj 9 (ap Ov (EP bt its room now T (e8 root va) t n u w)) ?_; clear c
 rintro _ C ⟨rfl, a, b, d, g, f⟩
 subst g
 rw [F6, s]
 refine ⟨aT, fun c => ?_⟩
 refine aj 10 3 c ?_
 refine cp 14 aF fun c => ?_
 refine aj 15 1 c ?_
 refine aJ ?_
 exact bu (p, a, b) (⟨d, f⟩)
 skip
 refine dy (dx oG) ?_; clear c
 rintro _ _ ⟨p, rfl, rfl⟩
 refine ⟨aT, fun c => ?_⟩
 refine cg 8 (ap tM (rS ba bm on root user va j kind)) fun c => ?_
 refine cj 9 (ap Ov (EP bt its room now T (e8 root va) t n u w)) ?_; clear c
 rintro _ C ⟨rfl, a, b, d, g, f⟩
 subst g
 rw [F6, s]
 refine ⟨aT, fun c => ?_⟩
 refine aj 10 3 c ?_
 refine cp 14 aF fun c => ?_
 refine aj 15 1 c ?_
 refine aJ ?_
 exact bu (p, a, b) (⟨d, f⟩)
 intro ⟨p, a, b⟩ ⟨d, f⟩
 dsimp only at d f ⊢
 refine aw ?_
 refine cz (fun r => ?_) fun r => ?_
 refine ar aF ?_
 refine aV (.cons (bi g8 eT rfl rfl) (.cons (aS rfl) .nil)) ?_
 exact ⟨_, ⟨none, a, _, b, rfl, fun x q => (by cases q), f, Qba l n, m, d, rfl⟩, IO⟩
 refine ah (ap call379 (Lf ba bm on root user va kind (yq y))) ?_
 refine ai (fun F => ?_) fun F => ?_
 refine ar aF ?_
 refine aV (.cons (bi g8 eT rfl rfl) (.cons (aS rfl) .nil)) ?_
 exact ⟨_, ⟨none, a, _, b, rfl, fun x q => (by cases q), f, Qba l n, m, d, rfl⟩, IO⟩
 refine ah (ap call380 (Lh ba bm on root user va j kind (yq y) true)) ?_
 refine ar aF ?_
 refine aV (.cons (bi g8 eT rfl rfl) (.cons (aS rfl) .nil)) ?_
 obtain ⟨z, rfl⟩ : ∃ z, y = some z := by cases y <;> simp_all
 have I : pd z.ent kind user = true := by simp_all [yq]
 obtain ⟨G, J⟩ := B6 s
 obtain ⟨x, K, M, H⟩ := D.sub z G
 refine ⟨_, ⟨some x, a, _, b, ?_, fun N q => ?_, f, Qba l n, m, d, rfl⟩, IO⟩
 show _ = Value.tuple #[.agg (Lg x.e.1 x.e.2.1 (va % 64) true).toArray, .bool true]
 rw [H]; rfl
 grind
theorem a2H ba bm pv bt bs on root user va (f : va < 4294967296) kind its room now T L (t : Rep its now T) (r : T.length ≤ room) (F : room ≤ 4) (G : now < 1000000) (h : TI L T) : sP W0 333 [pQ ba] (pt ba (iR bm on root user va kind) :: pt bm (cD pv bt bs) :: aU bt (its, cX room now) :: bG bs L :: R) (fun v B => ∃ o g u d, v = .tuple #[.agg (F7 o va).toArray, .bool o.isSome] ∧ F8 L (e8 root va) kind user o ∧ (o = none → ∀ x ∈ L, x.k = e8 root va → pd x.e kind user = false) ∧ Rep g d u ∧ u.length ≤ room ∧ TI L u ∧ d ≤ now + 1 ∧ B = pt ba (iR bm on root user va kind) :: pt bm (cD pv bt bs) :: aU bt (g, cX room d) :: bG bs L :: R) := by
 obtain ⟨y, i⟩ : ∃ y, kU (e8 root va) L = y := ⟨_, rfl⟩
 have H := h.len
 refine am func333 ntmps333 ?_
 refine ez (dx tL) fun C => ?_
 refine au 3 ?_
 refine cF (fun c : Nat => True) (fun c => [(0, pQ ba), (2, pQ C), (4, pQ c), (5, .bool y.isSome)]) (fun c => pt C (ag [iQ 0, iQ 0, iQ 0, .bool false] 238) :: pt c (ag (mZ (td y)) 49) :: pt ba (iR bm on root user va kind) :: pt bm (cD pv bt bs) :: aU bt (its, cX room now) :: bG bs L :: R) ?_ ?_
 refine bq [ba, bm] 16 fun a => ?_
 refine aj 0 8 a ?_
 refine fG (is := [8, 13]) (by kernel_rfl) rfl ⟨?_, ?_, trivial⟩
 refine dy (ap tM (rS ba bm on root user va f kind)) ?_; clear a
 rintro _ s ⟨rfl, b⟩
 obtain rfl := b.symm
 refine ⟨aT, fun a => ?_⟩
 refine fG (is := [9, 13]) (by kernel_rfl) rfl ⟨?_, ?_, trivial⟩
 refine dy (ap v8 (tc bs L (by omega) (e8 root va))) ?_; clear a
 rintro _ s ⟨rfl, b⟩
 subst b
 rw [te, i]
 refine ⟨aT, fun a => ?_⟩
 refine aj 10 3 a ?_
 refine cj 13 (dx oG) ?_; clear a
 rintro _ _ ⟨c, rfl, rfl⟩
 refine ⟨aT, fun a => ?_⟩
 refine cp 14 aF fun a => ?_
 refine aj 15 1 a ?_
 refine aJ ?_
 exact bu c trivial
 skip
 refine dy (dx oG) ?_; clear a
 rintro _ _ ⟨c, rfl, rfl⟩
 refine ⟨aT, fun a => ?_⟩
 refine cj 9 (ap v8 (tc bs L (by omega) (e8 root va))) ?_; clear a
 rintro _ s ⟨rfl, b⟩
 subst b
 rw [te, i]
 refine ⟨aT, fun a => ?_⟩
 refine aj 10 3 a ?_
 refine cp 14 aF fun a => ?_
 refine aj 15 1 a ?_
 refine aJ ?_
 exact bu c trivial
 skip
 refine dy (dx oG) ?_; clear a
 rintro _ _ ⟨c, rfl, rfl⟩
 refine ⟨aT, fun a => ?_⟩
 refine cg 8 (ap tM (rS ba bm on root user va f kind)) fun a => ?_
 refine cj 9 (ap v8 (tc bs L (by omega) (e8 root va))) ?_; clear a
 rintro _ s ⟨rfl, b⟩
 subst b
 rw [te, i]
 refine ⟨aT, fun a => ?_⟩
 refine aj 10 3 a ?_
 refine cp 14 aF fun a => ?_
 refine aj 15 1 a ?_
 refine aJ ?_
 exact bu c trivial
 intro c _
 refine aw ?_
 refine cz (fun j => ?_) fun j => ?_
 refine ar aF ?_
 refine aV (.cons (bi g8 eT rfl rfl) (.cons (aS rfl) .nil)) ?_
 exact ⟨_, ⟨none, its, T, now, rfl, fun x q => (by cases q), fun _ x w z => (by
   have l := EW h.keys w
   rw [z, i] at l
   subst l
   simp_all [td]), t, r, h, by omega, rfl⟩, IO⟩
 refine ah (ap call379 (Lf ba bm on root user va kind (td y))) ?_
 refine ai (fun I => ?_) fun I => ?_
 refine ar aF ?_
 refine aV (.cons (bi g8 eT rfl rfl) (.cons (aS rfl) .nil)) ?_
 exact ⟨_, ⟨none, its, T, now, rfl, fun x q => (by cases q), fun _ x w z => (by
   have l := EW h.keys w
   rw [z, i] at l
   subst l
   simp_all [td]), t, r, h, by omega, rfl⟩, IO⟩
 obtain ⟨x, rfl⟩ : ∃ x, y = some x := by cases y <;> simp_all
 have J : pd x.e kind user = true := by simp_all [td]
 obtain ⟨D, E⟩ := Be i
 have m := h.putT room now D
 have n := Kp (now := now) (k := x.k) (e := x.e) r
 rw [E] at m n
 rw [show td (some x) = x.e from rfl]
 refine bq [ba, bm, c] 11 fun a => ?_
 refine aj 0 8 a ?_
 refine aj 9 1 a ?_
 refine cg 8 (ap tM (rS ba bm on root user va f kind)) fun a => ?_
 refine cj 10 (ap call382 (Kq bt its room now T (e8 root va) x.e t r F G)) ?_; clear a
 rintro _ s ⟨rfl, p, b, A⟩
 subst b
 refine ⟨aT, fun a => ?_⟩
 refine aJ ?_
 refine ah (ap call380 (Lh ba bm on root user va f kind x.e true)) ?_
 refine ar aF ?_
 refine aV (.cons (bi g8 eT rfl rfl) (.cons (aS rfl) .nil)) ?_
 refine ⟨_, ⟨some x, p, _, now + 1, rfl, fun K q => ?_, fun q => (by cases q), A, n, m, by omega, rfl⟩, IO⟩
 cases q
 exact ⟨D, E, J⟩
section
variable {P : Program} {S : World → Prop} {N : FSz} {e : b0} {t : TypeId} {x y : Operand}
theorem F9 {E b c j : Nat} {k i cs} {d : List Value} (g : P.underlying t = some (.array b E)) (h : ∀ w, (isAgg E).run P w = .ok true w) (l : ∀ w, (sizeOf E).run P w = .ok c w) (m : ev e x = some (.agg cs)) (n : ev e y = some (.int k i))
    (o : i = j) (r : j < b) (p : cs.extract (j * c) (j * c + c) = d.toArray) : bP P S N e (.index t x y) (.agg d.toArray) := fun a w _ _ _ _ _ f _ => by
 subst o
 have q : (0 : Int) ≤ (j : Int) ∧ (j : Int) < (b : Int) := by omega
 simp only [execOp, Instr.index, Sem.run_bind, f.eval m, f.eval n, asIntOf, Sem.run_pure, Result.andThen_ok, eV g, Qad q, Qae, l, part, h, p, QbM]
end
def j9 : List Value := [.int .i64 0, .int .i64 4, .int .i64 1, .int .i64 1, .int .i64 2, .int .i64 2]
def qQ (i : Nat) : Int × Int := if i = 0 then (0, 4) else if i = 1 then (1, 1) else (2, 2)
def iA (pg : List Pl) (r p : Int) : Nat → Int
 | 0 => e9 .i64 r 8
 | i + 1 => if e9 .i64 r (qQ i).2 ≠ 0 ∧ fp pg p (qQ i).1 = 0 then lG .i64 (iA pg r p i) (qQ i).2 else iA pg r p i
theorem Ll (l : ∀ A, bC (aQ W0 A) 1 0 j9) bm pv bt bs ps pm d on r p pg (m : Pgs pg) : sQ W0 422 [pQ bm, .agg #[.bool on, iQ r, iQ p]] (pt bm (cD pv bt bs) :: pt pv (bW ps pm d) :: pt pm (bB pg) :: R) (iQ (iA pg r p 3)) (pt bm (cD pv bt bs) :: pt pv (bW ps pm d) :: pt pm (bB pg) :: R) := by
 refine am func422 ntmps422 ?_
 refine bz fun f => ?_
 refine aa (eH rfl rfl rfl) ?_
 refine aa (df (l _)) ?_
 refine d4 (fun i : Nat => i ≤ 3) (fun i => [(0, pQ bm), (3, pQ f), (5, iQ (iA pg r p i)), (11, .agg j9.toArray), (12, iQ i)]) (fun i => pt f (ag [.bool on, iQ r, iQ p] 416) :: pt bm (cD pv bt bs) :: pt pv (bW ps pm d) :: pt pm (bB pg) :: R) (fun i => 3 - i) 0 ?_ ?_
 omega
 intro i u
 refine aw ?_
 refine aA rfl (fun n => ?_) fun n => ?_
 refine au 2 ?_
 refine cF (fun _ : Unit => True) (fun _ => [(0, pQ bm), (3, pQ f), (5, iQ (iA pg r p (i + 1))), (11, .agg j9.toArray), (12, iQ i)]) (fun _ => pt f (ag [.bool on, iQ r, iQ p] 416) :: pt bm (cD pv bt bs) :: pt pv (bW ps pm d) :: pt pm (bB pg) :: R) ?_ ?_
 refine au 2 ?_
 have h : i < 3 := by omega
 have e : j9.toArray.extract (i * 2) (i * 2 + 2) = ([iQ (qQ i).1, iQ (qQ i).2] : List Value).toArray := by
  have : i = 0 ∨ i = 1 ∨ i = 2 := by omega
  rcases this with rfl | rfl | rfl <;> rfl
 have a : iA pg r p (i + 1) = if e9 .i64 r (qQ i).2 ≠ 0 ∧ fp pg p (qQ i).1 = 0 then lG .i64 (iA pg r p i) (qQ i).2 else iA pg r p i := rfl
 obtain ⟨⟨k, c⟩, j⟩ : ∃ q, qQ i = q := ⟨_, rfl⟩
 rw [j] at e a
 dsimp only at e a
 refine aw ?_
 refine aa (F9 a8A isAgg527 sizeOf527 rfl rfl rfl h e) ?_
 refine bj fun o => ?_
 refine ar aF ?_
 refine bq [f, o, bm] 19 fun b => ?_
 refine aj 0 4 b ?_
 refine ax 4 b (eH rfl rfl rfl) ?_
 refine aj 5 2 b ?_
 refine mF (t := 21) rfl ?_ ?_
 intro g
 refine aj 7 4 b ?_
 refine aj 12 4 b ?_
 refine cg 11 (ap sg (qt pv ps pm d)) fun b => ?_
 refine cg 16 (ap call198 (Iu pm pg m p k)) fun b => ?_
 refine aj 17 2 b ?_
 refine aJ ?_
 refine ai (fun s => ?_) fun s => ?_
 refine aa (mD rfl rfl rfl) ?_
 refine dj () ?_ ?_ ?_
 trivial
 · rw [a, Qad (by omega)]
   repeat (first | exact bK | refine bc rfl ?_)
 exact IO
 refine dj () ?_ ?_ ?_
 trivial
 · rw [a, Qaa (by omega)]
   repeat (first | exact bK | refine bc rfl ?_)
 exact IO
 intro g
 refine aj 7 12 b ?_
 refine aJ ?_
 refine dj () ?_ ?_ ?_
 trivial
 · rw [a, Qaa (by omega)]
   repeat (first | exact bK | refine bc rfl ?_)
 exact IO
 intro _ _
 refine aw ?_
 refine aa bY ?_
 exact bR (i + 1) (by omega)
 refine aw ?_
 refine ac ?_
 obtain rfl : i = 3 := by omega
 exact ao
section
variable {P : Program} {S : World → Prop} {N : FSz} {e : b0} {t : TypeId} {l : List Value} {v : Value}
theorem Lm {E n k : Nat} {ps rs} (o : P.underlying t = some (.array n E)) (p : ∀ w, (sizeOf E).run P w = .ok k w) (q : ∀ w, (zeroValue t).run P w = .ok (.agg l.toArray) w)
    (m : tZ k e 0 ps.toList rs) (r : l.length = rs.length * k) : bP P S N e (.build t ps) (.agg rs.flatten.toArray) := fun a w _ _ _ _ _ s _ => by
 have g := D7 (k := k) (fun x v h => s.eval h) ps.toList rs [] l 0 (by simp) m r
 simp only [Qaw] at g
 have u : Instr.build t (ps.map fun (i, x) => (i, a.eval x)) = (do
     let zero := (← zeroValue t).cells
     match ← underlying t with
     | .struct c =>
       let d ← c.mapM sq
       let some b := Instr.fill (d[·]?) zero (ps.map fun (i, x) => (i, a.eval x)).toList | stuck "build: no such field, or a part of the wrong size"
       pure (.agg b)
     | .array _ j =>
       let f ← sizeOf j
       let some b := Instr.fill (fun i => some (i * f, f)) zero (ps.map fun (i, x) => (i, a.eval x)).toList | stuck "build: a part of the wrong size"
       pure (.agg b)
     | _ => stuck "build: struct or array type expected") := rfl
 simp only [execOp, u, Sem.run_bind, q, eV o, p, Result.andThen_ok, Value.cells, Sem.run_pure, Qcj]
 rw [g]; rfl
end
theorem yr n : (((n : Nat) : Int) != 0) = (n != 0) := by
 grind
theorem Fa b rl pc x i (f : rl.length = 16) : sQ W0 131 [pQ b, iQ i, wV x] (pt b (dD rl pc) :: R) (iQ (if gO i then 0 else 1)) (pt b (dD (if gO i then j5 rl i.toNat x else rl) pc) :: R) := by
 by_cases a : gO i = true
 have h : 0 ≤ i ∧ i < 16 := Qar a
 obtain ⟨n, rfl⟩ : ∃ n : Nat, i = (n : Int) := ⟨i.toNat, by omega⟩
 rw [Qad a, Qad a, Qae]
 by_cases j : n = 0
 subst j
 rw [j5, Qad rfl]
 have c : ∀ R, bE Tryz.prog W0 196 [pQ b, iQ ((0 : Nat) : Int), wV x] (pt b (dD rl pc) :: R) (fun v B => v = .tuple #[] ∧ B = pt b (dD rl pc) :: R) := fun R => by
  refine am func196 ntmps196 ?_
  refine ai (fun g => ?_) fun g => ?_
  exact absurd rfl g
  refine bX (.inr rfl) .nil ?_
  exact ao
 refine ju 12 Og ntmps131 ?_
 refine aA rfl (fun d => ?_) fun d => ?_
 cases d
 refine aw ?_
 refine dV 10 (ap GQ (AU b rl pc f ((0 : Nat) : Int))) ?_
 refine ai (fun e => ?_) fun e => ?_
 refine ah (ap call196 (c _)) ?_
 refine ac ?_
 rw [a]
 exact ao
 exact absurd (by rw [a]; rfl) e
 grind [j5, ED]
 rw [Qaa a, Qaa a]
 refine ju 12 Og ntmps131 ?_
 refine aA rfl (fun d => ?_) fun d => ?_
 cases d
 refine aw ?_
 refine dV 10 (ap GQ (AU b rl pc f i)) ?_
 refine ai (fun e => ?_) fun e => ?_
 exact absurd e (by rw [Qaa a]; decide)
 refine ac ?_
 rw [Qaa a]
 exact ao
abbrev dZ (cs : List Nat) (id : Nat) : Obj := ag (cs.map wV ++ [.int .i64 id, .bool true]) 306
section
variable {cs : List Nat} {id : Nat}
theorem yt (h : CsOk cs) : (cs.map wV ++ [Value.int .i64 id, .bool true]).length = 9 := by simp [h.len]
theorem uL (h : CsOk cs) {n} (a : n < 7) : (cs.map wV ++ [Value.int .i64 id, .bool true])[n * 1]? = some (wV (d9 cs n)) := by
 have : n < cs.length := by rw [h.len]; exact a
 rw [QaB, QaA (by grind)]
 simp [d9, List.getD, this]
theorem a2I (h : CsOk cs) : (cs.map wV ++ [Value.int .i64 id, .bool true])[8]? = some (.bool true) := by
 rw [Qbn (by rw [Qax, h.len]; decide), Qax, h.len]; rfl
theorem a2J (h : CsOk cs) : (cs.map wV ++ [Value.int .i64 id, .bool true])[7]? = some (iQ id) := by
 rw [Qbn (by rw [Qax, h.len]; decide), Qax, h.len]; rfl
theorem yu (h : cs.length = 7) {n v} (a : n < 7) : (cs.map wV ++ [Value.int .i64 id, .bool true]).set (n * 1) (wV v) = (cs.set n v).map wV ++ [iQ id, .bool true] := by
 simp_all
theorem a2K (h : CsOk cs) : ((cs.map wV ++ [Value.int .i64 id, .bool true]).drop 0).take 7 = cs.map wV := by
 rw [List.drop_zero, List.take_left' (by rw [Qax, h.len])]
theorem wj b (h : CsOk cs) : sQ W0 169 [pV b] (pt b (dZ cs id) :: R) (.bool false) (pt b (dZ cs id) :: R) := by
 refine am func169 ntmps169 ?_
 refine cy rfl rfl rfl (fun a => ?_) fun a => ?_
 cases a
 refine aw ?_
 refine aa (aE (aI (a2I h))) ?_
 exact ac ao
theorem Bl b (h : CsOk cs) k (a : k < 4294967296) : sQ W0 279 [pV b, wV k] (pt b (dZ cs id) :: R) (.bool (kx cs k)) (pt b (dZ cs id) :: R) := by
 refine am func279 ntmps279 ?_
 refine aa (eW iC aW rfl rfl (i := 5) rfl (by decide) (by first | exact Qac _ | rfl)) ?_
 refine aa (aE (aI (uL h (n := 5) (by decide)))) ?_
 refine aa (eH rfl rfl (lk (h.at_ 5) a)) ?_
 refine ac ?_
 exact ⟨_, ⟨Qai Value.bool (yr _), rfl⟩, IO⟩
theorem Lo b (h : CsOk cs) : sQ W0 384 [pV b] (pt b (dZ cs id) :: R) (iQ (if dQ cs then 0 else 4)) (pt b (dZ cs id) :: R) := by
 refine am func384 ntmps384 ?_
 refine ah (ap zB (wj b h)) ?_
 refine ah (ap GX (Bl b h 4 (by decide))) ?_
 refine ai (fun a => ?_) fun a => ?_
 refine ac ?_
 rw [dQ, Qaa (by simpa using a)]
 exact ao
 refine ac ?_
 rw [dQ, Qad (by simpa using a)]
 exact ao
theorem Lp b (h : CsOk cs) (c : id < 4) (n : Nat) (j : n < 9) clock (k : 0 ≤ clock) : sQ W0 338 [pV b, iQ n, iQ clock] (pt b (dZ cs id) :: R) (.tuple #[wV (if dQ cs then oW cs id clock.toNat n else 0), iQ (if dQ cs then 0 else 4)]) (pt b (dZ cs id) :: R) := by
 obtain ⟨q, rfl⟩ : ∃ q : Nat, clock = (q : Int) := ⟨clock.toNat, by omega⟩
 rw [Qae]
 refine am func338 ntmps338 ?_
 refine ah (ap call384 (Lo b h)) ?_
 refine ai (fun d => ?_) fun d => ?_
 refine az ?_
 have a : dQ cs = false := by
  grind
 rw [a]
 exact ao
 have a : dQ cs = true := by
  grind
 rw [a]
 refine aA rfl (fun e => ?_) fun e => ?_
 omega
 refine aw ?_
 refine aA rfl (fun f => ?_) fun f => ?_
 omega
 refine aw ?_
 refine ai (fun g => ?_) fun g => ?_
 refine aa (bD (d8 (q : Int))) ?_
 refine az ?_
 obtain rfl : n = 7 := by omega
 exact ao
 refine ai (fun i => ?_) fun i => ?_
 refine aa (aE (aI (a2J h))) ?_
 refine aa (bD (cW (by omega))) ?_
 refine az ?_
 obtain rfl : n = 8 := by omega
 exact ao
 refine aa (ew (by omega)) ?_
 refine aa (aE (aI (uL h (n := n) (by omega)))) ?_
 refine az ?_
 rw [Qad rfl, oW, Qaa (by omega), Qaa (by omega)]
 exact ao
theorem a2L b (h : CsOk cs) (n v : Nat) (o : n < 9) (i : v < 4294967296) (k : dQ cs = true) : sP W0 431 [pV b, iQ n, wV v] (pt b (dZ cs id) :: R) (fun r B => r = iQ (if n ≤ 6 then 0 else 1) ∧ B = pt b (dZ (if n ≤ 6 then cs.set n (kz n v) else cs) id) :: R) := by
 refine am func431 ntmps431 ?_
 refine ah (ap call384 (Lo b h)) ?_
 rw [k, Qad rfl]
 refine aA rfl (fun j => ?_) fun j => ?_
 exact absurd rfl j
 refine au 2 ?_
 refine cF (fun _ : Unit => n ≤ 6) (fun _ => [(0, pV b), (1, iQ n), (2, wV (kz n v))]) (fun _ => pt b (dZ cs id) :: R) ?_ ?_
 refine au 12 ?_
 refine ai (fun l => ?_) fun l => ?_
 refine aa (eH rfl rfl (lk i (by decide))) ?_
 refine dj () ?_ ?_ ?_
 omega
 · rw [kz, Qad (by omega)]
   repeat (first | exact bK | refine bc rfl ?_)
 exact IO
 refine ai (fun m => ?_) fun m => ?_
 refine aa (eH rfl rfl (lk i (by decide))) ?_
 refine dj () ?_ ?_ ?_
 omega
 · rw [kz, Qaa (by omega), Qad (by omega)]
   repeat (first | exact bK | refine bc rfl ?_)
 exact IO
 refine ai (fun c => ?_) fun c => ?_
 refine dj () ?_ ?_ ?_
 omega
 · rw [kz, Qaa (by omega), Qaa (by omega)]
   repeat (first | exact bK | refine bc rfl ?_)
 exact IO
 refine ai (fun d => ?_) fun d => ?_
 refine dj () ?_ ?_ ?_
 omega
 · rw [kz, Qaa (by omega), Qaa (by omega)]
   repeat (first | exact bK | refine bc rfl ?_)
 exact IO
 refine ai (fun e => ?_) fun e => ?_
 refine dj () ?_ ?_ ?_
 omega
 · rw [kz, Qaa (by omega), Qaa (by omega)]
   repeat (first | exact bK | refine bc rfl ?_)
 exact IO
 refine ai (fun f => ?_) fun f => ?_
 refine dj () ?_ ?_ ?_
 omega
 · rw [kz, Qaa (by omega), Qaa (by omega)]
   repeat (first | exact bK | refine bc rfl ?_)
 exact IO
 refine ai (fun g => ?_) fun g => ?_
 refine dj () ?_ ?_ ?_
 omega
 · rw [kz, Qaa (by omega), Qaa (by omega)]
   repeat (first | exact bK | refine bc rfl ?_)
 exact IO
 refine ac ?_
 rw [Qaa (by omega), Qaa (by omega)]
 exact ao
 intro _ a
 rw [Qad a, Qad a]
 refine aw ?_
 refine aa (ew (by omega)) ?_
 refine ar (dq (by rw [yt h]; omega) (yu h.len (by omega))) ?_
 exact ac ao
theorem Lq b (h : CsOk cs) : sQ W0 83 [pV b] (pt b (dZ cs id) :: R) (.agg (cs.map wV).toArray) (pt b (dZ cs id) :: R) := by
 refine am func83 ntmps83 ?_
 refine bj fun a => ?_
 refine ah (ap zB (wj b h)) ?_
 refine aa (iD GR tG rfl (cV (b := b) (a2K h) (by rw [Qax, h.len])) (by rw [Qax, h.len])) ?_
 refine ar (fN tG rfl rfl (by rw [Qax, h.len]) (AT cs) rfl) ?_
 exact aV (.cons (bi GR tG rfl (by rw [Qax, h.len])) .nil) ao
@[reducible] def qR (cs : List Nat) : List Value := [.bool (ic cs), .int .i64 (gJ cs), .bool (!dQ cs)]
theorem yw b (h : CsOk cs) : sQ W0 208 [pV b] (pt b (dZ cs id) :: R) (.agg (qR cs).toArray) (pt b (dZ cs id) :: R) := by
 have d := h.at_ 0
 have e : d9 cs 0 / 256 < 4294967296 := by omega
 obtain ⟨c, a⟩ : ∃ r, d9 cs 0 / 256 &&& 31 = r := ⟨_, rfl⟩
 have f : c < 4294967296 := by grind [QaI, Qbw]
 refine am func208 ntmps208 ?_
 refine bj fun g => ?_
 refine ah (ap zB (wj b h)) ?_
 refine aa (eW iC aW rfl rfl (i := 0) rfl (by decide) (by first | exact Qac _ | rfl)) ?_
 refine aa (aE (aI (uL h (n := 0) (by decide)))) ?_
 refine aa (eH rfl rfl (lk d (by decide) (b := 1))) ?_
 refine aa (j0 rfl rfl (by decide) (jQ (k := .u32) (s := 8) (by decide))) ?_
 refine aa (eH rfl rfl (show _ = ((c : Nat) : Int) by rw [← a]; exact lk e (by decide) (b := 31))) ?_
 refine aa (bD (co (by omega))) ?_
 refine ah (ap GX (Bl b h 4 (by decide))) ?_
 refine ar aF ?_
 refine aV (.cons (bi C4 wG rfl rfl) .nil) ?_
 refine aG ?_
 rw [qR, ic, gJ, a, dQ, ← yr]
 rfl
theorem Lr b (h : CsOk cs) : sQ W0 278 [pV b] (pt b (dZ cs id) :: R) (.bool (d9 cs 1 != 0)) (pt b (dZ cs id) :: R) := by
 refine am func278 ntmps278 ?_
 refine ah (ap zB (wj b h)) ?_
 refine bO (fun a => ?_) fun a => ?_
 refine aa (eW iC aW rfl rfl (i := 1) rfl (by decide) (by first | exact Qac _ | rfl)) ?_
 refine ae rfl (cu mw rfl (aI (uL h (n := 1) (by decide)))) ?_
 refine cI rfl rfl (ae rfl (nt rfl rfl) (ae rfl (m5 rfl rfl) (ae rfl (bA rfl) (aL (aH (dE (bX (.inl rfl) (.cons (aS rfl) .nil) ?_)))))))
 exact ⟨_, ⟨Qai Value.bool (yr _), rfl⟩, IO⟩
 exact absurd (by decide) a
theorem a2M b (h : CsOk cs) : sQ W0 204 [pV b] (pt b (dZ cs id) :: R) (.bool (o9 cs)) (pt b (dZ cs id) :: R) := by
 obtain ⟨z, c⟩ : ∃ z, (d9 cs 1 != 0) = z := ⟨_, rfl⟩
 refine am func204 ntmps204 ?_
 refine ah (ap call278 (Lr b h)) ?_
 rw [c]
 refine bO (fun a => ?_) fun a => ?_
 rw [show o9 cs = kx cs 1 by rw [o9, c, a, Qbb]]
 refine ah (ap GX (Bl b h 1 (by decide))) ?_
 exact ac ao
 rw [show o9 cs = false by rw [o9, c, show z = false by simpa using a, QcS]]
 exact ac ao
def Fb (f0 t0 f1 t1 : Nat) : List Value := [wV f0, wV t0, wV f1, wV t1]
theorem a2N b b3 b6 s f t (h : CsOk cs) (c : f < 4294967296) (d : s < 4294967296) (e : t < 4294967296) : sQ W0 330 [wV f, wV t, pV b3, pV b6] (pt b3 (ag [pV b] 143) :: pt b6 (ag [wV s] 38) :: pt b (dZ cs id) :: R) (.tuple #[]) (pt b3 (ag [pV b] 143) :: pt b6 (ag [wV (qz cs s f t)] 38) :: pt b (dZ cs id) :: R) := by
 refine am func330 ntmps330 ?_
 refine ah (ap GX (Bl b h f c)) ?_
 refine ai (fun a => ?_) fun a => ?_
 rw [qz, Qad a]
 refine aa (show bP _ _ _ _ _ (wV (s ||| t)) from mD rfl rfl (mH d e)) ?_
 refine ar dX ?_
 refine bX (.inr rfl) .nil ?_
 exact ao
 rw [qz, Qaa a]
 refine bX (.inr rfl) .nil ?_
 exact ao
def wm (cs : List Nat) (s f0 t0 f1 t1 : Nat) : Nat → Nat
 | 0 => s
 | 1 => qz cs s f0 t0
 | _ => oT cs s f0 t0 f1 t1
theorem Lt W0 R b s f0 t0 f1 t1 (h : CsOk cs) (f : s < 4294967296) (p : f0 < 4294967296) (g : t0 < 4294967296) (q : f1 < 4294967296) (o : t1 < 4294967296) : sQ W0 281 [pV b, wV s, .agg (Fb f0 t0 f1 t1).toArray] (pt b (dZ cs id) :: R) (.tuple #[]) (pt b (dZ (cs.set 5 (oT cs s f0 t0 f1 t1)) id) :: R) := by
 have j : ∀ k, wm cs s f0 t0 f1 t1 k < 4294967296 := fun k => by
  match k with
  | 0 => exact f
  | 1 => exact DV f g
  | k + 2 => exact DW f g o
 refine am func281 ntmps281 ?_
 refine dt (jL rfl rfl) fun a => ?_
 refine bz fun v => ?_
 refine dt (rp a8B rfl) fun c => ?_
 refine fh (m6 aW rfl rfl rfl (Qab rfl) SetL.eq) ?_
 rintro _ _ rfl
 refine aL (aH (aO (aX (ae rfl (xf rfl rfl) ?_))))
 refine ae rfl (bA rfl) (aL (aH (aO (aO (aX (ae rfl (pB isAgg405 sizeOf405 rfl rfl) ?_))))))
 refine ae rfl (aM rfl) (aL (aH (mz ?_)))
 refine fM (fun k : Nat => k ≤ 2) (fun k => [(3, pV a), (6, pV c), (7, .func (.func 330) #[] #[pV a, pV c]), (12, .agg (Fb f0 t0 f1 t1).toArray), (13, .int .i64 k)]) (fun k => pt a (ag [pV b] 143) :: pt c (ag [wV (wm cs s f0 t0 f1 t1 k)] 38) :: pt b (dZ cs id) :: R) (fun k => 2 - k) 0 ?_ ?_ ?_ ?_
 omega
 · repeat (first | exact bK | refine bc rfl ?_)
 exact (show Ent _ (pt a (ag [pV b] 143) :: pt c (ag [wV s] 38) :: pt b (dZ cs id) :: R) from inferInstance)
 intro k w
 refine aw ?_
 refine ai (fun r => ?_) fun r => ?_
 have e : k < 2 := by omega
 obtain ⟨x, y, t, u, l, d⟩ : ∃ x y, x < 4294967296 ∧ y < 4294967296 ∧ ((Fb f0 t0 f1 t1).toArray.extract (k * 2) (k * 2 + 2) = [wV x, wV y].toArray) ∧ qz cs (wm cs s f0 t0 f1 t1 k) x y = wm cs s f0 t0 f1 t1 (k + 1) := by
  match k, e with
  | 0, _ => exact ⟨f0, t0, p, g, rfl, rfl⟩
  | 1, _ => exact ⟨f1, t1, q, o, rfl, rfl⟩
 refine aa (F9 Ow isAgg404 Gm rfl rfl rfl e l) ?_
 refine bj fun z => ?_
 refine ar aF ?_
 refine aa (eW zC aW rfl rfl (i := 0) rfl (by decide) (by first | exact Qac _ | rfl)) ?_
 refine aa (eW zC aW rfl rfl (i := 1) rfl (by decide) (by first | exact Qac _ | rfl)) ?_
 refine ah (kj sG (je (us := []) (cs := [pV a, pV c]) rfl call330 rfl (a2N b a c (wm cs s f0 t0 f1 t1 k) x y h t (j k) u))) ?_
 rw [d]
 refine aa bY ?_
 exact bR (k + 1) (by omega)
 obtain rfl : k = 2 := by omega
 refine bq [a, c] 6 fun m => ?_
 refine aj 0 4 m ?_
 refine ax 4 m (eW iC aW rfl rfl (i := 5) rfl (by decide) (by first | exact Qac _ | rfl)) ?_
 refine cp 5 (dq (by grind [yt]) (yu (n := 5) h.len (by decide))) fun m => ?_
 refine aJ ?_
 refine bX (.inr rfl) .nil ?_
 exact ⟨_, ⟨rfl, rfl⟩, (show Ent _ (pt b (dZ (cs.set 5 (wm cs s f0 t0 f1 t1 2)) id) :: R) from inferInstance)⟩
theorem Lu b pc cause tval (h : CsOk cs) (c : pc < 4294967296) (d : cause < 4294967296) (e : tval < 4294967296) : sQ W0 206 [pV b, wV pc, wV cause, wV tval] (pt b (dZ cs id) :: R) (.tuple #[wV (d9 cs 1), iQ 0]) (pt b (dZ (me cs pc cause tval) id) :: R) := by
 have f := h.trap c d e
 have g := h.enter c d e
 have j : d9 (me cs pc cause tval) 1 = d9 cs 1 := by grind [me, oU, d9]
 refine am func206 ntmps206 ?_
 refine ah (ap zB (wj b h)) ?_
 refine bq [] 18 fun a => ?_
 refine aj 0 8 a ?_
 refine ax 8 a (eW iC aW rfl rfl (i := 2) rfl (by decide) (by first | exact Qac _ | rfl)) ?_
 refine aj 10 2 a ?_
 refine aj 14 2 a ?_
 refine cp 9 (dq (by grind [yt]) (yu (n := 2) h.len (by decide))) fun a => ?_
 refine ax 12 a (eW iC aW rfl rfl (i := 3) rfl (by decide) (by first | exact Qac _ | rfl)) ?_
 refine cp 13 (dq (by rw [yt (h.set 2 pc c)]; decide) (yu (n := 3) (h.set 2 pc c).len (by decide))) fun a => ?_
 refine ax 16 a (eW iC aW rfl rfl (i := 4) rfl (by decide) (by first | exact Qac _ | rfl)) ?_
 refine cp 17 (dq (by rw [yt ((h.set 2 pc c).set 3 cause d)]; decide) (yu (n := 4) ((h.set 2 pc c).set 3 cause d).len (by decide))) fun a => ?_
 refine aJ ?_
 refine aa (xx zC aW Cj rfl rfl rfl rfl) ?_
 refine aa (xx zC aW Cj rfl rfl rfl rfl) ?_
 refine aa (Lm (rs := [[wV 1, wV 2], [wV 4, wV 8]]) Ow Gm a8C (fm rfl rfl (fm rfl rfl i5)) rfl) ?_
 refine ah (ap call281 (Lt (cs := oU cs pc cause tval) W0 _ b 4 1 2 4 8 f (by decide) (by decide) (by decide) (by decide) (by decide))) ?_
 rw [Y0, show (oU cs pc cause tval).set 5 (oT cs 4 1 2 4 8) = me cs pc cause tval from rfl]
 refine aa (eW iC aW rfl rfl (i := 1) rfl (by decide) (by first | exact Qac _ | rfl)) ?_
 refine aa (aE (aI (uL g (n := 1) (by decide)))) ?_
 refine az ?_
 rw [j]
 exact ao
theorem a2O b (h : CsOk cs) : sQ W0 430 [pV b] (pt b (dZ cs id) :: R) (.tuple #[wV (d9 cs 2), iQ 0]) (pt b (dZ (oV cs) id) :: R) := by
 have a := h.leave
 have c : d9 (oV cs) 2 = d9 cs 2 := by grind [oV, d9]
 have d : d9 cs 5 &&& 10 < 4294967296 := QaI Qbw (h.at_ 5)
 refine am func430 ntmps430 ?_
 refine ah (ap zB (wj b h)) ?_
 refine aa (eW iC aW rfl rfl (i := 5) rfl (by decide) (by first | exact Qac _ | rfl)) ?_
 refine aa (aE (aI (uL h (n := 5) (by decide)))) ?_
 refine aa (eH rfl rfl (lk (h.at_ 5) (by decide) (b := 10))) ?_
 refine aa (xx zC aW Cj rfl rfl rfl rfl) ?_
 refine aa (xx zC aW Cj rfl rfl rfl rfl) ?_
 refine aa (Lm (rs := [[wV 2, wV 1], [wV 8, wV 4]]) Ow Gm a8C (fm rfl rfl (fm rfl rfl i5)) rfl) ?_
 refine ah (ap call281 (Lt W0 _ b (d9 cs 5 &&& 10) 2 1 8 4 h d (by decide) (by decide) (by decide) (by decide))) ?_
 rw [show cs.set 5 (oT cs (d9 cs 5 &&& 10) 2 1 8 4) = oV cs from rfl]
 refine aa (eW iC aW rfl rfl (i := 2) rfl (by decide) (by first | exact Qac _ | rfl)) ?_
 refine aa (aE (aI (uL a (n := 2) (by decide)))) ?_
 refine az ?_
 rw [c]
 exact ao
end
end
end Go.Proofs.YtbhimdcapbflkaaGreatDoor
