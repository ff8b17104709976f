/-
  Part 4 of the proof of GuestOwn: rules, and walks of functions. Conditions: none.
-/
import Derived.Test.YtbhimdcapbflkaaGreatDoorGuestOwnC
namespace Go.Proofs.YtbhimdcapbflkaaGreatDoor
open Go.Proofs.Tryz
set_option linter.unusedSimpArgs false
set_option linter.unusedVariables false
set_option maxRecDepth 20000
set_option linter.defProp false
set_option synthInstance.maxSize 8192
set_option synthInstance.maxHeartbeats 2000000
variable {W0 : World} {R : List HP}
section
open Go.RowKit
abbrev pV (b : Nat) : Value := .pointer (some ⟨b, 0, none⟩)
structure Bd where
  r : Nat
  c : Nat
  m : Nat
  v : Nat
  t : Nat
@[reducible] def uG (x : Bd) (qs : List Nat) : List Value := [pV x.r, pV x.c, pV x.m] ++ (qs.map pV ++ List.replicate (3 - qs.length) (.pointer none)) ++ [pV x.v, pV x.t, .bool false, .int .u32 0, .int .u32 0, .int .u32 0, .int .u32 0]
theorem a0s {x q} : ∀ {c : List Nat}, c.length < 3 → (uG x c).set (3 + c.length * 1) (pV q) = uG x (c ++ [q])
 | [], _ => rfl
 | [a], _ => rfl
 | [a, b], _ => rfl
theorem a9x {x qs} (h : qs.length ≤ 3) : (uG x qs).length = 13 := by
 simp [uG]; omega
abbrev rZ (x : Bd) (i bt bs pv : Nat) (T : List HP) : List HP := pt x.r (dF (List.replicate 16 0) 0) :: pt x.c (JL i) :: pt x.m (wo pv bt bs) :: aU bt ([], [.int .i64 ((4 : Nat) : Int), .int .i64 0, .bool true]) :: pt bs (ag [ej, .bool true] 276) :: pt x.v uE :: pt x.t uF :: T
theorem a0t {l x R} : Ent (x :: kH 6 (cq l) :: R) (kH 6 (cq (l ++ [x])) :: R) :=
  (Ent.cons (sD (A := l) (R := R))).trans ((Ent.ofPerm (by
    show (x :: (l ++ R)).Perm ((l ++ [x]) ++ R)
    rw [QaJ]
    exact (List.perm_middle).symm)).trans sF)
@[reducible] def B4 (x : Bd) (q0 q1 q2 : Nat) : List Value := [pV x.r, pV x.c, pV x.m, pV q0, pV q1, pV q2, pV x.v, pV x.t, .bool false, .int .u32 0, .int .u32 0, .int .u32 0, .int .u32 0]
theorem EB (i g s t d : Nat) (D : i < 4) : sP W0 79 [iQ i, pV g] (pt g (cg s t d) :: R) (fun v B => ∃ x u w j k l, v = .tuple #[.agg (B4 x j k l).toArray, iQ 0] ∧ B = rZ x i u w g (kH 6 (cq [pt j (qO true du), pt k (qO true du), pt l (qO true du)]) :: pt g (cg s t d) :: R)) := by
 refine am func79 ntmps79 ?_
 refine bu fun z => ?_
 refine aF rfl (aB call161 (a0b i D)) ?_
 rintro _ y ⟨m, rfl, e⟩
 obtain rfl := e.symm
 refine au 14 ?_
 refine jT ?_
 refine aF rfl (ap call162 (a0r g s t d 4 (by decide))) ?_
 rintro _ y ⟨n, u, w, rfl, e⟩
 obtain rfl := e.symm
 refine au 14 ?_
 refine jT ?_
 refine aF rfl (aB call163 (ZY)) ?_
 rintro _ y ⟨o, rfl, e⟩
 obtain rfl := e.symm
 refine aw ?_
 refine aF rfl (aB call164 (a0c)) ?_
 rintro _ y ⟨p, rfl, e⟩
 obtain rfl := e.symm
 refine aF rfl (aB call165 (a0d)) ?_
 rintro _ y ⟨r, rfl, e⟩
 obtain rfl := e.symm
 refine aw ?_
 refine bu fun C => ?_
 refine ar aA ?_
 refine ge (fun f : List Nat => f.length ≤ 3) (fun f => [(4, pV z), (9, pV C), (35, iQ f.length)]) (fun f => pt C (ag (uG ⟨o, m, n, p, r⟩ f) 146) :: kH 6 (cq (f.map fun q => pt q (qO true du))) :: pt z (ag [.pointer none, .pointer none, .pointer none, .pointer none, .pointer none, .pointer none, .pointer none, .pointer none, .bool false, .int .u32 0, .int .u32 0, .int .u32 0, .int .u32 0] 146) :: rZ ⟨o, m, n, p, r⟩ i u w g (pt g (cg s t d) :: R)) (fun f => 3 - f.length) [] ?_ ?_ ?_ ?_
 grind
 · repeat (first | exact bK | refine aZ rfl ?_)
 refine Ent.trans (B := pt C (ag (uG ⟨o, m, n, p, r⟩ []) 146) :: pt z (ag [.pointer none, .pointer none, .pointer none, .pointer none, .pointer none, .pointer none, .pointer none, .pointer none, .bool false, .int .u32 0, .int .u32 0, .int .u32 0, .int .u32 0] 146) :: rZ ⟨o, m, n, p, r⟩ i u w g (pt g (cg s t d) :: R)) ?_ ?_
 rw [show uG ⟨o, m, n, p, r⟩ [] = [pV o, pV m, pV n, .pointer none, .pointer none, .pointer none, pV p, pV r, .bool false, .int .u32 0, .int .u32 0, .int .u32 0, .int .u32 0] from rfl]
 exact IO
 exact Ent.cons (sF (A := []))
 intro f F
 refine aw ?_
 refine aC rfl (fun E => ?_) fun E => ?_
 refine au 10 ?_
 have h : f.length < 3 := by omega
 refine aw ?_
 refine aF rfl (aB call166 (YZ)) ?_
 rintro _ y ⟨q, rfl, e⟩
 obtain rfl := e.symm
 refine ae rfl (d5 rfl a7v rfl sizeOf144 rfl (by first | exact Qac _ | rfl)) ?_
 refine ae rfl (eG h) ?_
 refine fh (lU sizeOf87 rfl rfl rfl (by grind) (a0s h)) ?_
 rintro _ _ rfl
 refine aL (oI (aH (aY ?_)))
 refine ae rfl (dh rfl rfl (by first | exact cj (by omega) | rfl)) ?_
 refine ae rfl (aM rfl) (aL (aH ?_))
 refine x9 (f ++ [q]) ?_ ?_ ?_ ?_
 grind
 grind
 · rw [show ((f ++ [q]).length : Int) = ((f.length : Nat) : Int) + 1 by simp]
   repeat (first | exact bK | refine aZ rfl ?_)
 grind [QaH, Ent.cons, a0t]
 refine au 6 ?_
 have h : f.length = 3 := by omega
 obtain ⟨j, k, l, rfl⟩ : ∃ j k l, f = [j, k, l] := by
  match f, h with
  | [a, b, c], _ => exact ⟨a, b, c, rfl⟩
 refine aY (ae rfl (pE N7 zf rfl rfl) ?_)
 refine fh (gi zf rfl rfl rfl rfl rfl) ?_
 rintro _ _ rfl
 refine ae rfl (bC rfl) (aL (aH (dE (aV (.cons (b0 N7 zf rfl rfl) (.cons (aR rfl) .nil)) ?_))))
 refine ⟨_, ⟨⟨o, m, n, p, r⟩, u, w, j, k, l, rfl, rfl⟩, ?_⟩
 rw [show [j, k, l].map (fun q => pt q (qO true du)) = [pt j (qO true du), pt k (qO true du), pt l (qO true du)] from rfl]
 exact IO
def ic (r : Int × Int) (i : Int) : Int := if i = r.1 then 3 else if i = r.2 then 1 else 0
theorem a0u r i : sQ W0 185 [.agg (jr r).toArray, iQ i] R (iQ (ic r i)) R := by
 refine am func185 ntmps185 ?_
 refine bB fun c => ?_
 refine ai (fun a => ?_) fun a => ?_
 refine ac ?_
 rw [ic, Qad (by omega)]
 exact ao
 refine ai (fun b => ?_) fun b => ?_
 refine ac ?_
 rw [ic, Qaa (by omega), Qad (by omega)]
 exact ao
 refine ac ?_
 rw [ic, Qaa (by omega), Qaa (by omega)]
 exact ao
def ie (c : Cfg) (k : Nat) : Int × Int := c.nl.getD k (0, 0)
def eZ (c : Cfg) (i : Int) : Nat → List Pl → List Pl
 | 0, pg => pg
 | k + 1, pg => if ic (ie c k) i = 0 then eZ c i k pg else dL (eZ c i k pg) ((8 + k : Nat) : Int) (iY c k, ic (ie c k) i)
theorem yj {c i pg} (h : Pgs pg) : ∀ k, Pgs (eZ c i k pg)
 | 0 => h
 | k + 1 => by
  rw [eZ]; split
  exact yj h k
  exact vP (yj h k)
theorem a0v c (h : CfK W0 c) i pm pg (m : Pgs pg) (r : c.nl.length ≤ 4) : sQ W0 105 [.agg (dy c).toArray, iQ i, pV pm] (pt pm (bI pg) :: R) (.tuple #[]) (pt pm (bI (eZ c i c.nl.length pg)) :: R) := by
 refine am func105 ntmps105 ?_
 refine bB fun b => ?_
 refine ge (fun k : Nat => k ≤ c.nl.length) (fun k => [(1, iQ i), (2, pV pm), (3, pV b), (10, .slice c.na c.nl.length c.nc), (11, iQ (c.nl.length : Nat)), (12, iQ k)]) (fun k => pt b (eA c) :: pt pm (bI (eZ c i k pg)) :: R) (fun k => c.nl.length - k) 0 ?_ ?_ ?_ ?_
 omega
 · repeat (first | exact bK | refine aZ rfl ?_)
 rw [show eZ c i 0 pg = pg from rfl]
 exact IO
 intro k s
 refine aw ?_
 refine aC rfl (fun p => ?_) fun p => ?_
 refine au 2 ?_
 refine cy (fun _ : Unit => k < c.nl.length) (fun _ => [(1, iQ i), (2, pV pm), (3, pV b), (10, .slice c.na c.nl.length c.nc), (11, iQ (c.nl.length : Nat)), (12, iQ k)]) (fun _ => pt b (eA c) :: pt pm (bI (eZ c i (k + 1) pg)) :: R) ?_ ?_
 refine au 2 ?_
 have a : k < c.nl.length := by omega
 obtain ⟨g, o, d, j⟩ := (h.ok.n []).at_ a
 obtain ⟨x, q⟩ : ∃ x, c.nl[k] = x := ⟨_, rfl⟩
 rw [q] at j
 have l : ie c k = x := by grind [ie]
 have e := yj (c := c) (i := i) m k
 refine aw ?_
 refine aa (ek zo zj rfl d rfl rfl a (by first | exact Qac _ | rfl)) ?_
 refine aa (dj j.weak) ?_
 refine bu fun t => ?_
 refine ar aA ?_
 refine ah (aB call185 (a0u x i)) ?_
 refine ai (fun f => ?_) fun f => ?_
 refine aa (dQ (8 + k)) ?_
 refine ah (aB call186 (ZP c h k)) ?_
 refine ah (ap NS (Do pm (eZ c i k pg) e (8 + k : Nat) (iY c k, ic x i))) ?_
 refine bq () ?_ (he := ?_)
 exact a
 rw [eZ, l, Qaa (by simpa using f)]
 exact IO
 refine bq () ?_ (he := ?_)
 exact a
 rw [eZ, l, Qad (by simpa using f)]
 exact IO
 intro _ a
 refine aw ?_
 refine aa bW ?_
 exact bR (k + 1) (by omega)
 refine aw ?_
 refine bU (.inr rfl) .nil ?_
 obtain rfl : k = c.nl.length := by omega
 exact ao
theorem a0w {ws n} (h : n ≤ 8) : bA (bA ws 8) n = bA ws n := by
 grind [bA]
abbrev iK : List Pl := List.replicate 12 (0, 0)
theorem yk : Pgs iK := ⟨rfl, fun n a h => absurd (by
  have : n = 0 ∨ n = 1 ∨ n = 2 ∨ n = 3 ∨ n = 4 ∨ n = 5 ∨ n = 6 ∨ n = 7 ∨ n = 8 ∨ n = 9 ∨ n = 10 ∨ n = 11 := by omega
  rcases this with rfl | rfl | rfl | rfl | rfl | rfl | rfl | rfl | rfl | rfl | rfl | rfl <;> rfl) h⟩
theorem EC : qE iK 0 8 := fun i _ a => by
 have : i = 0 ∨ i = 1 ∨ i = 2 ∨ i = 3 ∨ i = 4 ∨ i = 5 ∨ i = 6 ∨ i = 7 := by omega
 rcases this with rfl | rfl | rfl | rfl | rfl | rfl | rfl | rfl <;> decide
@[reducible] def B5 (x : Bd) (q0 q1 q2 : Nat) (c : Cfg) (i : Nat) (wv : Value) (pb pv bx tr : Nat) : List Value :=
  [pV x.r, pV x.c, pV x.m, pV q0, pV q1, pV q2, pV x.v, pV x.t, .bool false, .int .u32 0, .int .u32 0, .int .u32 0, .int .u32 0] ++ dy c ++ [.int .i64 i, wv, pV pb, pV pv, pV bx, pV tr, .int .i64 0]
theorem a0x {S N e o0 o1 o2 o3 o4 o5 o6 o7 x} {a b d i f g h j : Nat} {c wv} (k : wv.oneCell' = true) (l : ev e o0 = some (.agg (B4 x a b d).toArray)) (n : ev e o1 = some (.agg (dy c).toArray)) (o : ev e o2 = some (iQ i)) (p : ev e o3 = some wv) (q : ev e o4 = some (pV f)) (s : ev e o5 = some (pV g)) (u : ev e o6 = some (pV h)) (w : ev e o7 = some (pV j)) :
    bT Tryz.prog S N e (.build 149 #[(0, o0), (1, o1), (2, o2), (3, o3), (4, o4), (5, o5), (6, o6), (7, o7)]) (.agg (B5 x a b d c i wv f g h j).toArray) :=
  fT (l' := B5 x a b d c i wv f g h j) a7w zeroValue149 (aP zf (aP v8 (aP aS (aP C8 (aP Nc (aP Cb (aP sizeOf147 (aP Nm (aP aS fR)))))))))
    (kh (l' := [pV x.r, pV x.c, pV x.m, pV a, pV b, pV d, pV x.v, pV x.t, .bool false, .int .u32 0, .int .u32 0, .int .u32 0, .int .u32 0, iQ 0, .slice none 0 0, .slice none 0 0, .slice none 0 0, .slice none 0 0, .slice none 0 0, iQ 0, iQ 0, iQ 0, .slice none 0 0, .pointer none, .pointer none, .pointer none, .pointer none, iQ 0]) rfl zf l rfl (Qab rfl) rfl
    (kh (l' := [pV x.r, pV x.c, pV x.m, pV a, pV b, pV d, pV x.v, pV x.t, .bool false, .int .u32 0, .int .u32 0, .int .u32 0, .int .u32 0, iQ c.cats, .slice c.ga c.gl.length c.gc, .slice c.ra c.rl.length c.rc, .slice c.pa c.pl.length c.pc, .slice c.na c.nl.length c.nc, .slice c.sa c.sl.length c.sc, iQ c.gate, iQ c.quota, iQ 0, .slice none 0 0, .pointer none, .pointer none, .pointer none, .pointer none, iQ 0]) rfl v8 n rfl (Qab rfl) rfl
    (cu (l' := [pV x.r, pV x.c, pV x.m, pV a, pV b, pV d, pV x.v, pV x.t, .bool false, .int .u32 0, .int .u32 0, .int .u32 0, .int .u32 0, iQ c.cats, .slice c.ga c.gl.length c.gc, .slice c.ra c.rl.length c.rc, .slice c.pa c.pl.length c.pc, .slice c.na c.nl.length c.nc, .slice c.sa c.sl.length c.sc, iQ c.gate, iQ c.quota, iQ i, .slice none 0 0, .pointer none, .pointer none, .pointer none, .pointer none, iQ 0]) rfl aS o rfl (Qab rfl) rfl
    (cu (l' := [pV x.r, pV x.c, pV x.m, pV a, pV b, pV d, pV x.v, pV x.t, .bool false, .int .u32 0, .int .u32 0, .int .u32 0, .int .u32 0, iQ c.cats, .slice c.ga c.gl.length c.gc, .slice c.ra c.rl.length c.rc, .slice c.pa c.pl.length c.pc, .slice c.na c.nl.length c.nc, .slice c.sa c.sl.length c.sc, iQ c.gate, iQ c.quota, iQ i, wv, .pointer none, .pointer none, .pointer none, .pointer none, iQ 0]) rfl C8 p k (Qab rfl) rfl
    (cu (l' := [pV x.r, pV x.c, pV x.m, pV a, pV b, pV d, pV x.v, pV x.t, .bool false, .int .u32 0, .int .u32 0, .int .u32 0, .int .u32 0, iQ c.cats, .slice c.ga c.gl.length c.gc, .slice c.ra c.rl.length c.rc, .slice c.pa c.pl.length c.pc, .slice c.na c.nl.length c.nc, .slice c.sa c.sl.length c.sc, iQ c.gate, iQ c.quota, iQ i, wv, pV f, .pointer none, .pointer none, .pointer none, iQ 0]) rfl Nc q rfl (Qab rfl) rfl
    (cu (l' := [pV x.r, pV x.c, pV x.m, pV a, pV b, pV d, pV x.v, pV x.t, .bool false, .int .u32 0, .int .u32 0, .int .u32 0, .int .u32 0, iQ c.cats, .slice c.ga c.gl.length c.gc, .slice c.ra c.rl.length c.rc, .slice c.pa c.pl.length c.pc, .slice c.na c.nl.length c.nc, .slice c.sa c.sl.length c.sc, iQ c.gate, iQ c.quota, iQ i, wv, pV f, pV g, .pointer none, .pointer none, iQ 0]) rfl Cb s rfl (Qab rfl) rfl
    (cu (l' := [pV x.r, pV x.c, pV x.m, pV a, pV b, pV d, pV x.v, pV x.t, .bool false, .int .u32 0, .int .u32 0, .int .u32 0, .int .u32 0, iQ c.cats, .slice c.ga c.gl.length c.gc, .slice c.ra c.rl.length c.rc, .slice c.pa c.pl.length c.pc, .slice c.na c.nl.length c.nc, .slice c.sa c.sl.length c.sc, iQ c.gate, iQ c.quota, iQ i, wv, pV f, pV g, pV h, .pointer none, iQ 0]) rfl sizeOf147 u rfl (Qab rfl) rfl
    (cu (l' := [pV x.r, pV x.c, pV x.m, pV a, pV b, pV d, pV x.v, pV x.t, .bool false, .int .u32 0, .int .u32 0, .int .u32 0, .int .u32 0, iQ c.cats, .slice c.ga c.gl.length c.gc, .slice c.ra c.rl.length c.rc, .slice c.pa c.pl.length c.pc, .slice c.na c.nl.length c.nc, .slice c.sa c.sl.length c.sc, iQ c.gate, iQ c.quota, iQ i, wv, pV f, pV g, pV h, pV j, iQ 0]) rfl Nm w rfl (Qab rfl) rfl
    fQ))))))))
def laid (c : Cfg) (i : Nat) (ws : List Nat) (fr : List aD) (po : Po) : Im := cI i (bA ws (cJ c i).2.1.toNat) (cJ c i).2.1.toNat ⟨fr, po, iK⟩
theorem a0y c (h : CfK W0 c) (T : rt c = true) i (L : i < c.gl.length) ps pb fr po (Z : cz fr) (hP : PoOk po) (hl : po.length = fr.length) (U : 0 < fr.length) (t : (cJ c i).2.1 ≤ ((bS po i).length)) a cap ws (hs : ∀ A, cG (aQ W0 A) a 1 iJ ws) (hb : ∀ y ∈ ws, y < 4294967296) (hn : ws.length < 9223372036854775808) : sP W0 40 [.agg (dy c).toArray, iQ i, pV ps, pV pb, .slice a ws.length cap] (cR pb (ps, po) :: bD ps fr :: R) (fun v B => ∃ E x M N F G H q r j I J, v = .tuple #[pV E, iQ 0] ∧ B = pt E (ag (B5 x F G H c i (.slice (some ⟨q, 0, none⟩) (bA ws 8).length (bA ws 8).length) pb r I J) 149) :: rZ x i M N r (kH 6 (cq [pt F (qO true du), pt G (qO true du), pt H (qO true du)]) :: pt r (cg ps j 0) :: pt I td :: gB J [] :: pt q (ag ((bA ws 8).map wV) 38) :: pt j (bI (eZ c i c.nl.length (laid c i ws fr po).pg)) :: cR pb (ps, (laid c i ws fr po).po) :: bD ps (laid c i ws fr po).fr :: R)) := by
 have O : om c = 0 := Qar T
 have P := jt T
 have x0 := P.g4
 have u := P.gs i L
 obtain ⟨g, o, Q, V⟩ := (h.ok.g []).at_ L
 obtain ⟨x, hx⟩ : ∃ x, c.gl[i] = x := ⟨_, rfl⟩
 have K : cJ c i = x := by grind [cJ]
 obtain ⟨n, w⟩ : ∃ n : Nat, x.2.1 = (n : Int) := ⟨x.2.1.toNat, by rw [K] at u; omega⟩
 have x1 : (cJ c i).2.1.toNat = n := by grind
 have m : laid c i ws fr po = cI i (bA (bA ws 8) n) n ⟨fr, po, iK⟩ := by grind [laid, a0w]
 rw [m]
 rw [hx] at V
 rw [K, w] at u t
 have p : ImOk ⟨fr, po, iK⟩ := ⟨Z, hP, yk, hl⟩
 have e := ux (who := i) (words := bA (bA ws 8) n) (n := n) (by omega) p
 have x2 := wa ws 8
 have W := e.len
 have z : 0 < (cI i (bA (bA ws 8) n) n ⟨fr, po, iK⟩).fr.length := by
  have : ∀ k, (cI i (bA (bA ws 8) n) k ⟨fr, po, iK⟩).fr.length = fr.length := fun k => by
   induction k with
   | zero => rfl
   | succ k X =>
    rw [cI, jD]
    split
    rw [(uw (ux (by omega) p).fr).2]; exact X
    exact X
  rw [this]; exact U
 refine am func40 ntmps40 ?_
 refine bB fun b5 => ?_
 refine aF rfl (aB call102 (Jl c h.ok)) ?_
 rintro _ s ⟨x3, rfl, d⟩
 obtain rfl := d.symm
 rw [O]
 refine aw ?_
 refine cn (fun l => ?_) fun l => ?_
 exact absurd l (by decide)
 refine dk rfl rfl rfl (fun C => ?_) fun C => ?_
 omega
 refine aw ?_
 refine aC rfl (fun c2 => ?_) fun c2 => ?_
 omega
 refine aw ?_
 refine aF rfl (aB call103 (WA)) ?_
 rintro _ s ⟨j, rfl, d⟩
 obtain rfl := d.symm
 refine aw ?_
 refine ah (ap wT (uk ps fr)) ?_
 refine dk rfl rfl rfl (fun D => ?_) fun D => ?_
 omega
 refine au 6 ?_
 refine aC rfl (fun Y => ?_) fun Y => ?_
 cases Y
 refine aw ?_
 refine aF rfl (aB call104 (Jr a cap 8 ws (hs _) (by decide) hn)) ?_
 rintro _ s ⟨q, rfl, d⟩
 obtain rfl := d.symm
 refine aw ?_
 refine aa (ek mZ l6 rfl Q rfl rfl L (by first | exact Qac _ | rfl)) ?_
 refine aa (aE (V.weak 1 _ (by rw [← w]; rfl : (i9 x)[1]? = some (iQ (n : Int))))) ?_
 refine eh 9 (cN call76 (Ju pb ps j i n ⟨fr, po, iK⟩ p U (some ⟨q, 0, none⟩) (bA ws 8).length (bA ws 8) (by omega) (by omega) (by omega) EC (by show n ≤ (bS po i).length; omega) (by intro A K; exact (sX (b := q) Eh (Ei _).symm).weak (k := K)) (fun y hy => hb y (QbJ hy)) (by omega))) ?_
 refine jT ?_
 refine eh 6 (ap call105 (a0v c h i j _ e.pg P.nn)) ?_
 refine aF rfl (cv call106 (WK ps j _ _ (yj e.pg _) z)) ?_
 rintro _ s ⟨r, rfl, d⟩
 obtain rfl := d.symm
 refine au 14 ?_
 refine jT ?_
 refine aF rfl (ap NX (EB i r ps j 0 (by omega))) ?_
 rintro _ s ⟨x_, M, N, F, G, H, rfl, d⟩
 obtain rfl := d.symm
 refine aw ?_
 refine bu fun S => ?_
 refine iB 10 aA ?_
 refine jT ?_
 refine bz [S, b5] 12 fun f => ?_
 refine aj 0 6 f ?_
 refine bQ 6 (aB call107 (a0e)) ?_; clear f
 rintro _ s ⟨I, rfl, d⟩
 obtain rfl := d.symm
 refine ⟨aT, fun f => ?_⟩
 refine bQ 7 (aB call108 (a0g)) ?_; clear f
 rintro _ s ⟨J, rfl, d⟩
 obtain rfl := d.symm
 refine ⟨aT, fun f => ?_⟩
 refine az 8 f (a0x rfl rfl rfl rfl rfl rfl rfl rfl rfl) ?_
 refine bQ 9 (kg rfl) ?_; clear f
 rintro _ _ ⟨E, rfl, rfl⟩
 refine ⟨aT, fun f => ?_⟩
 refine aj 10 2 f ?_
 refine aJ ?_
 refine ax ?_
 refine ⟨_, ⟨E, x_, M, N, F, G, H, q, r, j, I, J, rfl, rfl⟩, IO⟩
section
variable {W0 : World} {N : FSz} {K : Act → World → Prop} {e : bi} {A R : List HP} {b : Nat} {l : List Value} {T : TypeId}
end
theorem a0z (b i : Nat) : sQ W0 270 [pV b] (pt b (ag [.int .u32 0, .int .u32 0, .int .u32 0, .int .u32 0, .int .u32 0, .int .u32 0, .int .u32 0, iQ i] 353) :: R) (.tuple #[]) (pt b (ag [.int .u32 0, .int .u32 0, .int .u32 0, .int .u32 0, .int .u32 0, .int .u32 4, .int .u32 0, iQ i] 353) :: R) := by
 refine am func270 ntmps270 ?_
 refine aa (xo iO aX Gg rfl) ?_
 refine ar (iD (Qab rfl) SetRL.eq) ?_
 refine aa (eG (by decide)) ?_
 refine ar dX ?_
 refine bU (.inr rfl) .nil ?_
 exact ao
theorem a0A (i : Nat) (d : i < 4) : sP W0 188 [iQ i] R (fun v B => ∃ b, v = .tuple #[pV b, iQ 0] ∧ B = pt b (ag [.int .u32 0, .int .u32 0, .int .u32 0, .int .u32 0, .int .u32 0, .int .u32 4, .int .u32 0, iQ i] 353) :: R) := by
 refine am func188 ntmps188 ?_
 refine dk rfl rfl rfl (fun a => ?_) fun a => ?_
 omega
 refine aw ?_
 refine aC rfl (fun c => ?_) fun c => ?_
 omega
 refine aw ?_
 refine bB fun b => ?_
 refine ah (ap call270 (a0z b i)) ?_
 refine ax ?_
 exact ⟨_, ⟨_, rfl, rfl⟩, IO⟩
@[reducible] def JV (c : Cfg) (i : Nat) (wv : Value) (pb bb : Nat) : List Value := [.int .i64 c.cats, .slice c.ga c.gl.length c.gc, .slice c.ra c.rl.length c.rc, .slice c.pa c.pl.length c.pc, .slice c.na c.nl.length c.nc, .slice c.sa c.sl.length c.sc, .int .i64 c.gate, .int .i64 c.quota, .int .i64 i, wv, pV pb, .pointer none, .pointer none, .pointer none, .int .u32 0, .int .u32 0, .int .u32 0, .int .i64 0, .bool false, .int .i64 0, .int .i64 0, .int .i64 0, .int .u32 0, .int .u32 0, .int .u32 0, .int .i64 0, .bool false, .int .i64 0, .int .i64 0, .int .i64 0, .int .u32 0, .int .u32 0, .int .u32 0, .int .i64 0, .bool false, .int .i64 0, .int .i64 0, .int .i64 0, .pointer none, .pointer none, pV bb, .slice none 0 0, .int .i64 0, .bool false, .int .u32 0, .int .u32 0, .int .u32 0, .int .u32 0]
theorem a0B {S N e o0 o1 o2 o3 o4} {i a b : Nat} {c wv} (d : wv.oneCell' = true) (f : ev e o0 = some (.agg (dy c).toArray)) (g : ev e o1 = some (iQ i)) (h : ev e o2 = some wv) (j : ev e o3 = some (pV a)) (k : ev e o4 = some (pV b)) :
    bT Tryz.prog S N e (.build 129 #[(0, o0), (1, o1), (2, o2), (3, o3), (10, o4)]) (.agg (JV c i wv a b).toArray) :=
  fT (l' := JV c i wv a b) so zeroValue129 (aP v8 (aP aS (aP C8 (aP Nf (aP sizeOf117 (aP sizeOf118 (aP sizeOf119 (aP sizeOf122 (aP FY (aP Ng (aP sizeOf125 (aP FZ (aP aS (aP iN (aP G0 fR)))))))))))))))
    (kh (l' := [iQ c.cats, .slice c.ga c.gl.length c.gc, .slice c.ra c.rl.length c.rc, .slice c.pa c.pl.length c.pc, .slice c.na c.nl.length c.nc, .slice c.sa c.sl.length c.sc, iQ c.gate, iQ c.quota, iQ 0, .slice none 0 0, .pointer none, .pointer none, .pointer none, .pointer none, .int .u32 0, .int .u32 0, .int .u32 0, iQ 0, .bool false, iQ 0, iQ 0, iQ 0, .int .u32 0, .int .u32 0, .int .u32 0, iQ 0, .bool false, iQ 0, iQ 0, iQ 0, .int .u32 0, .int .u32 0, .int .u32 0, iQ 0, .bool false, iQ 0, iQ 0, iQ 0, .pointer none, .pointer none, .pointer none, .slice none 0 0, iQ 0, .bool false, .int .u32 0, .int .u32 0, .int .u32 0, .int .u32 0]) rfl v8 f rfl (Qab rfl) rfl
    (cu (l' := [iQ c.cats, .slice c.ga c.gl.length c.gc, .slice c.ra c.rl.length c.rc, .slice c.pa c.pl.length c.pc, .slice c.na c.nl.length c.nc, .slice c.sa c.sl.length c.sc, iQ c.gate, iQ c.quota, iQ i, .slice none 0 0, .pointer none, .pointer none, .pointer none, .pointer none, .int .u32 0, .int .u32 0, .int .u32 0, iQ 0, .bool false, iQ 0, iQ 0, iQ 0, .int .u32 0, .int .u32 0, .int .u32 0, iQ 0, .bool false, iQ 0, iQ 0, iQ 0, .int .u32 0, .int .u32 0, .int .u32 0, iQ 0, .bool false, iQ 0, iQ 0, iQ 0, .pointer none, .pointer none, .pointer none, .slice none 0 0, iQ 0, .bool false, .int .u32 0, .int .u32 0, .int .u32 0, .int .u32 0]) rfl aS g rfl (Qab rfl) rfl
    (cu (l' := [iQ c.cats, .slice c.ga c.gl.length c.gc, .slice c.ra c.rl.length c.rc, .slice c.pa c.pl.length c.pc, .slice c.na c.nl.length c.nc, .slice c.sa c.sl.length c.sc, iQ c.gate, iQ c.quota, iQ i, wv, .pointer none, .pointer none, .pointer none, .pointer none, .int .u32 0, .int .u32 0, .int .u32 0, iQ 0, .bool false, iQ 0, iQ 0, iQ 0, .int .u32 0, .int .u32 0, .int .u32 0, iQ 0, .bool false, iQ 0, iQ 0, iQ 0, .int .u32 0, .int .u32 0, .int .u32 0, iQ 0, .bool false, iQ 0, iQ 0, iQ 0, .pointer none, .pointer none, .pointer none, .slice none 0 0, iQ 0, .bool false, .int .u32 0, .int .u32 0, .int .u32 0, .int .u32 0]) rfl C8 h d (Qab rfl) rfl
    (cu (l' := [iQ c.cats, .slice c.ga c.gl.length c.gc, .slice c.ra c.rl.length c.rc, .slice c.pa c.pl.length c.pc, .slice c.na c.nl.length c.nc, .slice c.sa c.sl.length c.sc, iQ c.gate, iQ c.quota, iQ i, wv, pV a, .pointer none, .pointer none, .pointer none, .int .u32 0, .int .u32 0, .int .u32 0, iQ 0, .bool false, iQ 0, iQ 0, iQ 0, .int .u32 0, .int .u32 0, .int .u32 0, iQ 0, .bool false, iQ 0, iQ 0, iQ 0, .int .u32 0, .int .u32 0, .int .u32 0, iQ 0, .bool false, iQ 0, iQ 0, iQ 0, .pointer none, .pointer none, .pointer none, .slice none 0 0, iQ 0, .bool false, .int .u32 0, .int .u32 0, .int .u32 0, .int .u32 0]) rfl Nf j rfl (Qab rfl) rfl
    (cu (l' := [iQ c.cats, .slice c.ga c.gl.length c.gc, .slice c.ra c.rl.length c.rc, .slice c.pa c.pl.length c.pc, .slice c.na c.nl.length c.nc, .slice c.sa c.sl.length c.sc, iQ c.gate, iQ c.quota, iQ i, wv, pV a, .pointer none, .pointer none, .pointer none, .int .u32 0, .int .u32 0, .int .u32 0, iQ 0, .bool false, iQ 0, iQ 0, iQ 0, .int .u32 0, .int .u32 0, .int .u32 0, iQ 0, .bool false, iQ 0, iQ 0, iQ 0, .int .u32 0, .int .u32 0, .int .u32 0, iQ 0, .bool false, iQ 0, iQ 0, iQ 0, .pointer none, .pointer none, pV b, .slice none 0 0, iQ 0, .bool false, .int .u32 0, .int .u32 0, .int .u32 0, .int .u32 0]) rfl sizeOf125 k rfl (Qab rfl) rfl
    fQ)))))
theorem a0C {R qs c a fr vs} (b : vs.length = fr.length) : Ent (pt qs (ag [.slice a fr.length c] 196) :: osl 80 1 (.slice a fr.length c) vs :: ((vs.zip fr).map gF ++ R)) (cH qs fr :: R) := um (vs := vs) b rfl
theorem ED {P S N e x v} {l : List Value} {T fs nm} {i b c : Nat} {em tg pk bo} (f : ev e x = some (.agg l.toArray)) (g : P.underlying T = some (.struct fs)) (m : fs.toList[i]? = some ⟨nm, b, c, em, tg, pk, bo⟩)
    (h : ∀ w, (isAgg b).run P w = .ok false w) (j : l[c]? = some v) : bT P S N e (.field T x i) v := fun a w _ _ _ _ _ k _ => by
 have d : fs[i]? = some ⟨nm, b, c, em, tg, pk, bo⟩ := by grind
 simp only [execOp, Instr.field, k.eval f, Sem.run_bind, eW g, d, Result.andThen_ok, asAgg, Sem.run_pure]
 rw [vn h j]; rfl
section
variable {W0 : World} {N : FSz} {K : Act → World → Prop} {e : bi} {A B R R1 R2 R3 : List HP} {g n c : Nat} {a : Option Addr} {v : Value} {ls : List (List ByteArray)}
end
section
variable {W0 : World} {N : FSz} {K : Act → World → Prop} {e : bi} {A B R R1 R2 R3 R4 R5 R6 : List HP} {p n : Nat} {ps : List Prt}
end
theorem JW {n f} : (List.replicate n cC).set f cC = List.replicate n cC := by
 simp_all
theorem B6 {c f i} (a : rt c = true) (b : f < cp c) (h : jG c f = some i) : lr c f = (1, (i : Int)) := by
 rw [lr, Qad ⟨a, by omega, by have := (jt a).nd; rw [cp] at b; omega⟩, h]; rfl
theorem a0D {c f} (a : rt c = true) (b : f < cp c) (h : jG c f = none) : (lr c f).1 = 2 := by
 rw [lr, Qad ⟨a, by omega, by have := (jt a).nd; rw [cp] at b; omega⟩, h]; rfl
def f16 (b : List Nat) : List Value := (List.range 16).map fun i => bV (b.getD i 0)
section
variable {W0 : World} {N : FSz} {K : Act → World → Prop} {e : bi} {A B R R1 R2 R3 : List HP} {d : Nat} {x : Dk}
end
section
variable {rb vb pv tr : Nat} {cs : List Value}
theorem EE b rl (a i : Nat) (f : rl.length = 16) (g : i < 16) : sQ W0 130 [pV b, iQ i] (pt b (dF rl a) :: R) (.tuple #[wV (rl.getD i 0), iQ 0]) (pt b (dF rl a) :: R) := by
 have c : gK i = true := by grind [gK]
 have h : (rl.map wV ++ [Value.bool true, wV a])[i * 1]? = some (wV (rl.getD i 0)) := by
  grind
 refine jz 13 func130 ntmps130 ?_
 refine aC rfl (fun d => ?_) fun d => ?_
 cases d
 refine aw ?_
 refine eh 9 (ap Gy (AV b rl a f i)) ?_
 refine ai (fun e => ?_) fun e => ?_
 exact absurd e (by rw [c]; decide)
 refine aa (eG g) ?_
 refine aa (aE (aI h)) ?_
 exact ax ao
theorem a0E k ck a b d (c : List Nat) (h : c.length = 16) zs (e : zs.length = 16) : d7 ([iQ k, iQ ck, wV a, wV b, wV d] ++ zs) 5 (c.map wV) = [iQ k, iQ ck, wV a, wV b, wV d] ++ c.map wV :=
  zN (c.map wV) zs [iQ k, iQ ck, wV a, wV b, wV d] (by grind)
theorem EF {S N e o0 o1 o2 o3 o4 o5 k ck a b d} {c : List Nat} (f : c.length = 16) (g : ev e o0 = some (iQ k)) (h : ev e o1 = some (iQ ck)) (i : ev e o2 = some (wV a)) (j : ev e o3 = some (wV b)) (l : ev e o4 = some (wV d)) (m : ev e o5 = some (.agg (c.map wV).toArray)) :
    bT Tryz.prog S N e (.build 300 #[(0, o0), (1, o1), (2, o2), (3, o3), (4, o4), (5, o5)]) (.agg ([Value.int .i64 k, iQ ck, wV a, wV b, wV d] ++ c.map wV).toArray) :=
  fT (l' := [Value.int .i64 k, iQ ck, wV a, wV b, wV d] ++ c.map wV) underlying300 zA (aP aS (aP aS (aP aX (aP aX (aP aX (aP rq fR))))))
    (cu (l' := [iQ k, iQ 0, .int .u32 0, .int .u32 0, .int .u32 0] ++ List.replicate 16 (.int .u32 0)) rfl aS g rfl (Qab rfl) rfl
    (cu (l' := [iQ k, iQ ck, .int .u32 0, .int .u32 0, .int .u32 0] ++ List.replicate 16 (.int .u32 0)) rfl aS h rfl (Qab rfl) rfl
    (cu (l' := [iQ k, iQ ck, wV a, .int .u32 0, .int .u32 0] ++ List.replicate 16 (.int .u32 0)) rfl aX i rfl (Qab rfl) rfl
    (cu (l' := [iQ k, iQ ck, wV a, wV b, .int .u32 0] ++ List.replicate 16 (.int .u32 0)) rfl aX j rfl (Qab rfl) rfl
    (cu (l' := [iQ k, iQ ck, wV a, wV b, wV d] ++ List.replicate 16 (.int .u32 0)) rfl aX l rfl (Qab rfl) rfl
    (kh rfl rq m (by grind) (by simp) (a0E k ck a b d c f _ (by simp)) fQ))))))
theorem a0F b es k ck x y z rl (a : rl.length = 16) (c : es.length < 4096) : sQ W0 167 [pV b, .agg ([Value.int .i64 k, iQ ck, wV x, wV y, wV z] ++ rl.map wV).toArray] (gB b es :: R) (iQ 0) (gB b (es ++ [⟨k, ck, x, y, z, rl⟩]) :: R) := by
 have := a0h W0 R b es ⟨k, ck, x, y, z, rl⟩ c
 rwa [JM (e := ⟨k, ck, x, y, z, rl⟩) a] at this
def qR (rl : List Nat) (e w : Nat) : List Nat := (rl.set 1 e).set 2 w
theorem a0G {l : List Nat} (h : l.length = 16) : ∃ g i j k m n o p q r a b c d e f, l = [g, i, j, k, m, n, o, p, q, r, a, b, c, d, e, f] := by
 match l, h with
 | [g, i, j, k, m, n, o, p, q, r, a, b, c, d, e, f], _ => exact ⟨g, i, j, k, m, n, o, p, q, r, a, b, c, d, e, f, rfl⟩
end
end
section
abbrev dp := Int × Int
abbrev jH := Int × Int × Int
def mb (k : dp) (e : jH) (u : Int) : It := ⟨k.1, k.2, e.1, e.2.1, e.2.2, u⟩
def k0 (k : dp) (l : List It) : List It := l.filter (fun x => decide (x.key ≠ k))
theorem tj {k l x} : x ∈ k0 k l ↔ x ∈ l ∧ x.key ≠ k := by simp [k0]
theorem EG {k : dp} {l : List It} (h : ∀ x ∈ l, x.key ≠ k) : k0 k l = l := QaT.2 fun x a => by simpa using h x a
structure Rep (its : List It) (now : Nat) (L : List It) : Prop where
  perm : its.Perm L
  heap : Heap its its.length
  sort : L.Pairwise (fun x y => x.u < y.u)
  le : ∀ x ∈ L, x.u ≤ (now : Int)
  keys : (L.map It.key).Nodup
theorem Rep.nil : Rep [] 0 [] := ⟨List.Perm.nil, fun c a => by simp at a, List.Pairwise.nil, fun _ h => by simp at h, QcZ⟩
theorem Rep.length {its L now} (h : Rep its now L) : its.length = L.length := h.perm.length_eq
theorem Rep.keysI {its L now} (h : Rep its now L) : (its.map It.key).Nodup := (h.perm.map It.key).symm.nodup h.keys
def lK (k : dp) (x : It) (L : List It) : List It := k0 k L ++ [x]
theorem JX {L k x} {a : Nat} (b : L.Pairwise (fun x y => x.u < y.u)) (c : ∀ x ∈ L, x.u ≤ (a : Int)) (e : x.u = (a : Int) + 1) : (lK k x L).Pairwise (fun x y => x.u < y.u) := by
 refine List.pairwise_append.2 ⟨b.filter _, List.pairwise_singleton _ _, fun y d z f => ?_⟩
 obtain rfl : z = x := by grind
 have := c y (tj.1 d).1; omega
theorem JY {L} {k : dp} {x : It} (h : (L.map It.key).Nodup) (c : x.key = k) : ((lK k x L).map It.key).Nodup := by
 unfold lK
 rw [QaH]
 refine Qbp.2 ⟨?_, by simp, fun a d b f => ?_⟩
 exact QcG (QcB _ QbA) h
 obtain rfl : b = x.key := by grind
 obtain ⟨y, e, rfl⟩ := QaX.1 d
 rw [c]; exact (tj.1 e).2
theorem JZ {L k x} {a : Nat} (b : ∀ x ∈ L, x.u ≤ (a : Int)) (d : x.u = (a : Int) + 1) : ∀ y ∈ lK k x L, y.u ≤ (a + 1 : Nat) := fun y c => by
 rcases QaS.1 c with h | h
 have := b y (tj.1 h).1; omega
 grind
theorem a0H {a : List It} {k : dp} {i x} (m : (a.map It.key).Nodup) (r : i < a.length) (c : (a.getD i default).key = k) : (a.set i x).Perm (lK k x a) := by
 have n : a.getD i default = a[i] := by grind
 rw [n] at c
 have e : a = a.take i ++ a[i] :: a.drop (i + 1) := by simp_all
 have o : a.set i x = a.take i ++ x :: a.drop (i + 1) := by grind
 have p : k0 k a = a.take i ++ a.drop (i + 1) := by
  have f := m
  rw [e, QaH, QaM] at f
  have b := Qbp.1 f
  have q := Qbx.1 b.2.1
  conv => lhs; rw [e]
  unfold k0
  rw [QbF, List.filter_cons_of_neg (by simp [c])]
  have g := EG (k := k) (l := a.take i) (fun y d h => b.2.2 y.key (QbP d) a[i].key (by simp) (by rw [h, c]))
  have j := EG (k := k) (l := a.drop (i + 1)) (fun y d h => q.1 (by rw [c, ← h]; exact QbP d))
  unfold k0 at g j
  rw [g, j]
 rw [o, lK, p]
 exact List.perm_middle.trans (List.perm_append_singleton x _).symm
theorem Rep.setI {its its' L now i} {k : dp} {x : It} (h : Rep its now L) (b : i < its.length) (c : (its.getD i default).key = k) (d : x.key = k) (a : x.u = now + 1)
    (e : its'.Perm (its.set i x)) (f : Heap its' its'.length) : Rep its' (now + 1) (lK k x L) :=
  ⟨e.trans ((a0H h.keysI b c).trans ((h.perm.filter _).append_right _)), f, JX h.sort h.le a, JZ h.le a, JY h.keys d⟩
def nE (k : dp) (L : List It) : Option It := L.find? (fun x => decide (x.key = k))
theorem Rep.noneI {its L now} {k : dp} (h : Rep its now L) (b : ∀ x ∈ its, x.key ≠ k) : nE k L = none ∧ k0 k L = L :=
  ⟨QbX.2 fun x a => by simpa using b x (h.perm.mem_iff.2 a), EG fun x a => b x (h.perm.mem_iff.2 a)⟩
theorem B7 {L k y} (h : nE k L = some y) : y ∈ L ∧ y.key = k := ⟨Qcp h, by simpa using List.find?_some h⟩
theorem a0I {L} {k : dp} {y : It} (d : (L.map It.key).Nodup) (b : y ∈ L) (e : y.key = k) : nE k L = some y := by
 cases c : nE k L with
 | none => exact absurd e (by simpa using QbX.1 c y b)
 | some z =>
  obtain ⟨h, f⟩ := B7 c
  have : z = y := by
   clear c
   induction L with
   | nil => simp at b
   | cons a L i =>
    simp only [QaM, Qbx] at d
    rcases QaO.1 b with j | g
    grind
    grind
  rw [this]
theorem Rep.someI {its L now i} {k : dp} (h : Rep its now L) (a : i < its.length) (b : (its.getD i default).key = k) : nE k L = some (its.getD i default) := by
 have c : its.getD i default = its[i] := by grind
 refine a0I h.keys (h.perm.mem_iff.1 ?_) b
 rw [c]; exact QaF a
theorem Rep.dropI {its its' L now} {k : dp} {y : It} (h : Rep its now L) (f : y.key = k) (a : (its' ++ [y]).Perm its) (c : Heap its' its'.length) : Rep its' now (k0 k L) := by
 have b : ((its' ++ [y]).map It.key).Nodup := (a.map _).symm.nodup h.keysI
 rw [QaH] at b
 have g := Qbp.1 b
 have e : k0 k (its' ++ [y]) = its' := by
  simp_all [k0, QbF, List.filter_cons_of_neg]
 refine ⟨?_, c, h.sort.filter _, fun x d => h.le x (tj.1 d).1, QcG (QcB _ QbA) h.keys⟩
 have := (a.trans h.perm).filter (fun x => decide (x.key ≠ k))
 rw [← e]; exact this
theorem Rep.pushI {its its' L now} {k : dp} {x : It} (h : Rep its now L) (b : ∀ y ∈ its, y.key ≠ k) (c : x.key = k) (a : x.u = now + 1) (d : its'.Perm (its ++ [x])) (e : Heap its' its'.length) : Rep its' (now + 1) (lK k x L) :=
  ⟨by unfold lK; rw [(h.noneI b).2]; exact d.trans (h.perm.append_right _), e, JX h.sort h.le a, JZ h.le a, JY h.keys c⟩
theorem Rep.popI {its its' L now y} (h : Rep its now L) (f : (its' ++ [y]).Perm its) (i : Heap its' its'.length) (a : ∀ z ∈ its, y.u ≤ z.u) : Rep its' now L.tail := by
 have b : y ∈ L := (f.trans h.perm).mem_iff.1 (by simp)
 cases L with
 | nil => simp at b
 | cons z T =>
  have g := Qbh.1 h.sort
  have c : y = z := by
   rcases QaO.1 b with e | j
   exact e
   have l := g.1 y j
   have m := a z (h.perm.mem_iff.2 (by simp))
   omega
  subst c
  have d : (y :: its').Perm (y :: T) := (List.perm_append_singleton y its').symm.trans (f.trans h.perm)
  exact ⟨List.Perm.cons_inv d, i, g.2, fun x k => h.le x (QbI _ k), (Qbx.1 (by simpa using h.keys)).2⟩
def oo (room now : Nat) (k : dp) (e : jH) (L : List It) : List It :=
  if room < (lK k (mb k e (now + 1 : Nat)) L).length then (lK k (mb k e (now + 1 : Nat)) L).tail else lK k (mb k e (now + 1 : Nat)) L
def tp (now : Nat) (k : dp) (L : List It) : List It := match nE k L with | none => L | some y => lK k (mb k y.ent (now + 1 : Nat)) L
theorem B8 k L : (k0 k L).length ≤ L.length := QaL _ _
theorem EH k x L : (lK k x L).length = (k0 k L).length + 1 := by simp [lK]
theorem K0 {k L y} (h : nE k L = some y) : (k0 k L).length < L.length := by
 obtain ⟨a, b⟩ := B7 h
 exact List.length_filter_lt_length_iff_exists.2 ⟨y, a, by simpa using b⟩
theorem K9 {room now k e L} (h : L.length ≤ room) : (oo room now k e L).length ≤ room := by
 grind [B8, oo, List.length_tail, EH]
theorem a0J {now k L} : (tp now k L).length ≤ L.length := by
 unfold tp; split
 omega
 rename_i y a; rw [EH]; exact K0 a
end
section
open Go.RowKit
@[reducible] def cT (room now : Nat) : List Value := [.int .i64 room, .int .i64 now, .bool true]
theorem Ka b its room now L (k : dp) (e : jH) (o : Rep its now L) (U : L.length ≤ room) (V : room ≤ 4) (G : now < 1000000) : sP W0 382 [pQ b, .agg (gW k).toArray, .agg (mN e).toArray] (aU b (its, cT room now) :: R) (fun v B => v = iQ 0 ∧ ∃ d, B = aU b (d, cT room (now + 1)) :: R ∧ Rep d (now + 1) (oo room now k e L)) := by
 have H := o.length
 refine am func382 ntmps382 ?_
 refine bB fun w => ?_
 refine bB fun M => ?_
 refine eh 5 (ap zB (wn b its _ _)) ?_
 refine cy (fun l : Nat => True) (fun l => [(0, pQ b), (4, pQ w), (7, pQ l)]) (fun l => pt l (ag (bO (mb k e (now + 1 : Nat))) 282) :: pt w (ag (gW k) 51) :: aU b (its, cT room (now + 1)) :: R) ?_ ?_
 refine bz [w, M] 8 fun a => ?_
 refine aj 0 2 a ?_
 refine az 2 a (fT Nz Cj (aP rp (aP sk fR)) (kh rfl rp rfl rfl (Qab rfl) SetRL.eq (kh rfl sk rfl rfl (Qab rfl) SetRL.eq fQ))) ?_
 refine aj 3 1 a ?_
 refine eD (is := [4, 6]) (by kernel_rfl) rfl ⟨?_, ?_, trivial⟩
 refine cX (ap NY (JU b its _ now G)) ?_; clear a
 rintro _ W ⟨rfl, z⟩
 obtain rfl := z.symm
 refine ⟨aT, fun a => ?_⟩
 refine az 5 a (fT tT sr (aP mi (aP aS fR)) (kh rfl mi rfl rfl (Qab rfl) SetRL.eq (cu rfl aS rfl rfl (Qab rfl) SetL.eq fQ))) ?_
 refine bQ 6 (di sr) ?_; clear a
 rintro _ _ ⟨l, rfl, rfl⟩
 refine ⟨aT, fun a => ?_⟩
 refine cm 7 aA fun a => ?_
 refine aJ ?_
 refine bq l ?_ (he := ?_)
 trivial
 show Ent (pt l (ag (bO (mb k e (now + 1 : Nat))) _) :: _) _
 exact IO
 skip
 refine cX (di sr) ?_; clear a
 rintro _ _ ⟨l, rfl, rfl⟩
 refine ⟨aT, fun a => ?_⟩
 refine bY 4 (ap NY (JU b its _ now G)) fun a => ?_
 refine az 5 a (fT tT sr (aP mi (aP aS fR)) (kh rfl mi rfl rfl (Qab rfl) SetRL.eq (cu rfl aS rfl rfl (Qab rfl) SetL.eq fQ))) ?_
 refine cm 7 aA fun a => ?_
 refine hQ ?_
 refine aH ?_
 refine bq l ?_ (he := ?_)
 trivial
 show Ent (pt l (ag (bO (mb k e (now + 1 : Nat))) _) :: _) _
 exact IO
 intro l _
 refine aO (aO (aY (ae rfl (aM rfl) (ae rfl (pE C6 rp rfl rfl) ?_))))
 refine aF rfl (ap NZ (EA b its _ k (by omega))) ?_
 rintro _ _ ⟨r, rfl, rfl, I⟩
 refine ae rfl (bC rfl) (aL (aH (aO (aY (ae rfl (aM rfl) (ae rfl (vl rfl rfl) (aL (aH ?_))))))))
 refine aC rfl (fun N => ?_) fun N => ?_
 obtain ⟨i, rfl, n, J⟩ : ∃ i : Nat, r = (i : Int) ∧ i < its.length ∧ (its.getD i default).key = k := by
  rcases I with ⟨h, _⟩ | h
  omega
  exact h
 refine aO ?_
 refine Ez (b := b) (wm n) fun g c K O P Q => ?_
 refine bz [b, l] 9 fun a => ?_
 refine dr 0 rfl rfl rfl a (aM rfl) ?_
 refine dr 1 rfl rfl rfl a (kL rfl) ?_
 refine dr 2 rfl rfl rfl a (d5 rfl G9 rfl G1 rfl (by first | exact Qac _ | rfl)) ?_
 refine dr 3 rfl rfl rfl a (d5 rfl a7E rfl Ni rfl (by first | exact Qac _ | rfl)) ?_
 refine dr 4 rfl rfl rfl a (co FV rfl (by first | exact dq (k := 0) rfl rfl | exact dq (k := 1) rfl rfl)) ?_
 refine dr 5 rfl rfl rfl a (aM rfl) ?_
 refine dr 6 rfl rfl rfl a (iS mY fg rfl (by first | exact jR (k := 0) rfl | exact jR (k := 1) rfl) rfl) ?_
 refine az 7 a (bM n) ?_
 refine cm 8 (iD (pR its K i n) (qQ its K i (mb k e (now + 1 : Nat)) n)) fun a => ?_
 refine hQ ?_
 refine aH (aO ?_)
 refine JP (b := b) (its := its.set i (mb k e (now + 1 : Nat))) rfl (by simp) O P (by simpa [cF iZ] using Q) ?_
 refine aY (ae rfl (aM rfl) (ae rfl (kL rfl) ?_))
 refine ae rfl (d5 rfl G9 rfl G1 rfl (by first | exact Qac _ | rfl)) ?_
 refine ae rfl (xi Nx (fun _ h => by cases h) rfl) ?_
 refine ae rfl (aM rfl) ?_
 refine aF rfl (ap call420 (JQ b (its.set i (mb k e (now + 1 : Nat))) _ i (by simp; omega) (by grind) (by rw [Qap]; exact DW o.heap n))) ?_
 rintro _ _ ⟨rfl, d, rfl, p, u⟩
 refine aL (aH (aO (aY (ae rfl (bC rfl) (aL (aH (dE (iP (ac ?_)))))))))
 refine ⟨_, ⟨rfl, d, rfl, ?_⟩, IO⟩
 have S := K0 (o.someI n J)
 rw [oo, Qaa (by rw [EH]; omega)]
 exact o.setI n J rfl (by simp [mb]) p (by rw [p.length_eq]; exact u)
 have A : ∀ x ∈ its, x.key ≠ k := by
  rcases I with ⟨_, h⟩ | ⟨i, h, _⟩
  exact h
  omega
 refine jk (aH (aO ?_))
 refine bz [l] 7 fun a => ?_
 refine dr 0 rfl rfl rfl a (aM rfl) ?_
 refine dr 1 rfl rfl rfl a (kL rfl) ?_
 refine dr 2 rfl rfl rfl a (d5 rfl G9 rfl G1 rfl (by first | exact Qac _ | rfl)) ?_
 refine dr 3 rfl rfl rfl a (xi Nx (fun _ h => by cases h) rfl) ?_
 refine dr 4 rfl rfl rfl a (iS mY fg rfl (jR (k := 0) rfl) rfl) ?_
 refine dr 5 rfl rfl rfl a (xi tT (fun _ h => by cases h) rfl) ?_
 refine bQ 6 (ap Gs (heapPush_spec b its (mb k e (now + 1 : Nat)) _ (by omega) o.heap)) ?_; clear a
 rintro _ _ ⟨rfl, f, rfl, p, u⟩
 have q := o.pushI A (x := mb k e (now + 1 : Nat)) rfl (by simp [mb]) p u
 have C := q.length
 have T : f.length = its.length + 1 := by rw [p.length_eq]; simp
 refine ⟨aT, fun a => ?_⟩
 refine aJ ?_
 refine fj [(b, 1, cT room (now + 1))] 9 mixed rfl (bj JO aW) (fun a => ?_)
 refine aj 0 3 a ?_
 refine aj 4 3 a ?_
 refine az 7 a (aE (km (k := 0) (j := 0) rfl rfl)) ?_
 refine fD 3 rfl rfl (ap ve (tf b f _)) (bj JO aW) fun a => ?_
 refine aj 8 1 a ?_
 refine aJ ?_
 refine ai (fun D => ?_) fun D => ?_
 refine aF rfl (ap Gv (heapPop_spec b f _ (by omega) (wm (i := 0) (by omega)) u)) ?_
 rintro _ _ ⟨y, s, rfl, rfl, E, F, t⟩
 have m : Rep s (now + 1) (oo room now k e L) := by
  rw [oo, Qad (by omega)]; exact q.popI E F t
 refine aw ?_
 refine ac ?_
 exact ⟨_, ⟨rfl, _, rfl, m⟩, IO⟩
 have m : Rep f (now + 1) (oo room now k e L) := by
  grind [oo]
 refine ac ?_
 exact ⟨_, ⟨rfl, _, rfl, m⟩, IO⟩
def yl (k : dp) (L : List It) : Value := match nE k L with
 | none => .tuple #[.agg (mN (0, 0, 0)).toArray, .bool false]
 | some y => .tuple #[.agg (mN y.ent).toArray, .bool true]
theorem EI b its room now L (k : dp) (f : Rep its now L) (D : L.length ≤ room) (E : room ≤ 4) (t : now < 1000000) : sP W0 377 [pQ b, .agg (gW k).toArray] (aU b (its, cT room now) :: R) (fun v B => v = yl k L ∧ ∃ a d, d ≤ now + 1 ∧ B = aU b (a, cT room d) :: R ∧ Rep a d (tp now k L)) := by
 have n := f.length
 refine am func377 ntmps377 ?_
 refine bB fun F => ?_
 refine bu fun G => ?_
 refine ah (ap zB (wn b its _ _)) ?_
 refine aF rfl (ap NZ (EA b its _ k (by omega))) ?_
 rintro _ _ ⟨r, rfl, rfl, o⟩
 refine aw ?_
 refine aC rfl (fun w => ?_) fun w => ?_
 have j : ∀ x ∈ its, x.key ≠ k := by
  rcases o with ⟨_, h⟩ | ⟨i, h, _⟩
  exact h
  omega
 refine aw ?_
 refine ar aA ?_
 refine aV (.cons (b0 zd sk rfl rfl) (.cons (aR rfl) .nil)) ?_
 refine ⟨_, ⟨?_, its, now, by omega, rfl, ?_⟩, IO⟩
 simp [aK, yl, (f.noneI j).1]
 rw [tp, (f.noneI j).1]; exact f
 obtain ⟨i, rfl, e, p⟩ : ∃ i : Nat, r = (i : Int) ∧ i < its.length ∧ (its.getD i default).key = k := by
  rcases o with ⟨h, _⟩ | h
  omega
  exact h
 refine aw ?_
 refine Ez (b := b) (wm e) fun g c q y z A => ?_
 refine aw ?_
 refine aa (bM e) ?_
 refine aa (dj (cQ (a0i its q i e) rfl)) ?_
 refine bu fun H => ?_
 refine ar aA ?_
 refine fj [(b, 0, [.slice (some ⟨g, 0, none⟩) its.length c])] 11 mixed rfl (bj (pD rfl) aW) (fun l => ?_)
 refine aj 0 7 l ?_
 refine fD 7 rfl rfl (ap NY (JS b _ _ now t)) (bj (pD rfl) aW) fun l => ?_
 refine az 8 l (bM e) ?_
 refine aj 9 1 l ?_
 refine iC 10 rfl rfl (dt (by omega) (a0j its q i _ e)) (bj (pD rfl) aW) fun l => ?_
 refine aJ ?_
 refine JP (b := b) (its := its.set i { its.getD i default with u := (now + 1 : Nat) }) rfl (by simp) y z (by simpa [cF iZ] using A) ?_
 refine aw ?_
 refine aF rfl (ap call420 (JQ b (its.set i { its.getD i default with u := (now + 1 : Nat) }) _ i (by simp; omega) (by grind) (by rw [Qap]; exact DW f.heap e))) ?_
 rintro _ _ ⟨rfl, a, rfl, s, C⟩
 refine aw ?_
 refine ar aA ?_
 refine aV (.cons (b0 zd sk rfl rfl) (.cons (aR rfl) .nil)) ?_
 have m := f.someI e p
 refine ⟨_, ⟨?_, a, now + 1, by omega, rfl, ?_⟩, IO⟩
 simp [aK, yl, m, It.ent]
 rw [tp, m]; subst p
 exact f.setI e rfl rfl (by simp [mb]) s (by rw [s.length_eq]; exact C)
theorem EJ b its tr now L (k : dp) (c : Rep its now L) (p : L.length ≤ 100) tw : sP W0 233 [pQ b, .agg (gW k).toArray] (aU b (its, [tr, tw, .bool true]) :: R) (fun v B => v = .bool (nE k L).isSome ∧ ∃ a, B = aU b (a, [tr, tw, .bool true]) :: R ∧ Rep a now (k0 k L)) := by
 have g := c.length
 refine am func233 ntmps233 ?_
 refine bB fun q => ?_
 refine ah (ap zB (wn b its _ _)) ?_
 refine aF rfl (ap NZ (EA b its _ k (by omega))) ?_
 rintro _ _ ⟨r, rfl, rfl, j⟩
 refine aw ?_
 refine aC rfl (fun m => ?_) fun m => ?_
 have d : ∀ x ∈ its, x.key ≠ k := by
  rcases j with ⟨_, h⟩ | ⟨i, h, _⟩
  exact h
  omega
 refine aw ?_
 refine ac ?_
 refine ⟨_, ⟨?_, its, rfl, ?_⟩, IO⟩
 simp [aK, (c.noneI d).1]
 rw [(c.noneI d).2]; exact c
 obtain ⟨i, rfl, l, e⟩ : ∃ i : Nat, r = (i : Int) ∧ i < its.length ∧ (its.getD i default).key = k := by
  rcases j with ⟨h, _⟩ | h
  omega
  exact h
 refine aw ?_
 refine aF rfl (ap call271 (heapRemove_spec b its _ i (by omega) l c.heap)) ?_
 rintro _ _ ⟨a, rfl, rfl, n, o⟩
 refine aa (sM tT (fun _ h => by cases h) rfl) ?_
 refine bu fun s => ?_
 refine ar aA ?_
 refine aa (dj (cQ (vs := [iQ (its.getD i default).kr, iQ (its.getD i default).kp]) rfl rfl)) ?_
 refine aa (sI Tryz.eqGuardType51 rfl rfl (sH Ce Tryz.stoodInHeld51 (lT rfl db rfl rfl (lS jj) (lT rfl db rfl rfl (lS jj) sG)))) ?_
 refine ac ?_
 have f := c.someI l e
 refine ⟨_, ⟨?_, a, rfl, c.dropI e n o⟩, IO⟩
 rw [f]; subst e
 simp [aK, It.key]
def B9 (lo : Nat) (l : List It) (n : Nat) : Prop := ∀ c, c < n → 0 < c → lo ≤ (c - 1) / 2 → us l ((c - 1) / 2) ≤ us l c
def wq (lo : Nat) (l : List It) (i n : Nat) : Prop := ∀ c, c < n → 0 < c → (lo ≤ (c - 1) / 2 → c ≠ i → (c - 1) / 2 ≠ i → us l ((c - 1) / 2) ≤ us l c) ∧ ((c - 1) / 2 = i → lo < i → us l ((i - 1) / 2) ≤ us l c)
theorem a0K {lo l i j n} (h : wq lo l i n) (p : lo ≤ i) (v : n ≤ l.length) (q : j < n) (g : (j - 1) / 2 = i) (r : 0 < j) (s : us l j < us l i)
    (k : ∀ c, c < n → 0 < c → (c - 1) / 2 = i → us l j ≤ us l c) : wq lo (swapL l i j) j n ∧ us (swapL l i j) ((j - 1) / 2) ≤ us (swapL l i j) j := by
 have t : i < j := by omega
 have d := kP (l := l) (i := i) (j := j) (by omega) (by omega)
 refine ⟨fun c a b => ⟨fun u e m => ?_, fun e m => ?_⟩, ?_⟩
 rw [d, d]
 by_cases f : c = i
 subst f
 have := (h j q r).2 g (by omega)
 rw [Qaa (by omega), Qaa (by omega), Qad rfl]; exact this
 by_cases o : (c - 1) / 2 = i
 grind
 rw [Qaa o, Qaa m, Qaa f, Qaa e]; exact (h c a b).1 u f o
 rw [g, d, d, Qad rfl, Qaa (by omega), Qaa (by omega)]
 rw [← e]; exact (h c a b).1 (by omega) (by omega) (by omega)
 grind
theorem Kb {lo l i n} (h : wq lo l i n) (a : ∀ c, c < n → 0 < c → (c - 1) / 2 = i → us l i ≤ us l c) (j : lo < i → us l ((i - 1) / 2) ≤ us l i) : B9 lo l n := fun c b d e => by
 by_cases f : (c - 1) / 2 = i
 grind
 by_cases g : c = i
 grind
 exact (h c b d).1 e g f
theorem a0L {lo l n} (h : B9 (lo + 1) l n) : wq lo l lo n := fun c a b => ⟨fun d _ e => h c a b (by omega), fun _ h => absurd h (Nat.lt_irrefl _)⟩
theorem a0M b its tl i0 n (D : n ≤ its.length) (E : n < 1000) (F : i0 ≤ n) (G : wq i0 its i0 n) : sP W0 272 [nD b, iQ i0, iQ n] (aU b (its, tl) :: R) (fun v B => ∃ l m, v = .bool m ∧ B = aU b (l, tl) :: R ∧ l.Perm its ∧ B9 i0 l n) := by
 refine am NO ntmps272 ?_
 refine cW (fun X : List It × Nat => X.1.Perm its ∧ i0 ≤ X.2 ∧ wq i0 X.1 X.2 n ∧ (i0 < X.2 → us X.1 ((X.2 - 1) / 2) ≤ us X.1 X.2) ∧ X.2 ≤ n) (fun X => [(0, nD b), (1, iQ i0), (2, iQ n), (7, iQ X.2)]) (fun X => aU b (X.1, tl) :: R) (fun X => n - X.2) (its, i0) ?_ ?_
 grind
 intro ⟨l, i⟩ ⟨h, k, r, s, t⟩
 have o := h.length_eq
 simp only at h k r s t o ⊢
 refine aw ?_
 refine aa ug ?_
 refine aa (dQ (2 * i + 1)) ?_
 refine cn (fun p => ?_) fun p => ?_
 refine ac ?_
 refine ⟨_, ⟨l, decide (i0 < i), by simp [aK], rfl, h, Kb r ?_ s⟩, IO⟩
 first | (intro c d e f; exfalso; omega) | (intro c d e f; have := a c d e f; simp at g; omega)
 refine aC rfl (fun z => ?_) fun z => ?_
 omega
 refine au 8 ?_
 refine cy (fun j : Nat => (j - 1) / 2 = i ∧ 0 < j ∧ j < n ∧ ∀ c, c < n → 0 < c → (c - 1) / 2 = i → us l j ≤ us l c) (fun j => [(0, nD b), (1, iQ i0), (2, iQ n), (7, iQ i), (9, iQ j)]) (fun j => aU b (l, tl) :: R) ?_ ?_
 refine au 3 ?_
 refine aa (dQ (2 * i + 2)) ?_
 refine bN (fun q => ?_) fun q => ?_
 refine ah (fC rfl ((fun w => yh w _)) Cu rfl (yd b l tl (2 * i + 2) (2 * i + 1) (by omega) (by omega))) ?_
 refine ai (fun A => ?_) fun A => ?_
 refine bq (2 * i + 2) ?_
 refine ⟨by omega, by omega, by omega, fun c d e f => ?_⟩
 have : c = 2 * i + 1 ∨ c = 2 * i + 2 := by omega
 rcases this with rfl | rfl <;> omega
 refine bq (2 * i + 1) ?_
 refine ⟨by omega, by omega, by omega, fun c d e f => ?_⟩
 have : c = 2 * i + 1 ∨ c = 2 * i + 2 := by omega
 rcases this with rfl | rfl <;> omega
 refine bq (2 * i + 1) ?_
 refine ⟨by omega, by omega, by omega, fun c d e f => ?_⟩
 have : c = 2 * i + 1 ∨ c = 2 * i + 2 := by omega
 rcases this with rfl | rfl <;> omega
 intro j ⟨C, u, x, a⟩
 refine aw ?_
 refine ah (fC rfl ((fun w => yh w _)) Cu rfl (yd b l tl j i (by omega) (by omega))) ?_
 refine aC rfl (fun g => ?_) fun g => ?_
 refine au 15 ?_
 refine ac ?_
 refine ⟨_, ⟨l, decide (i0 < i), by simp [aK], rfl, h, Kb r ?_ s⟩, IO⟩
 first | (intro c d e f; exfalso; omega) | (intro c d e f; have := a c d e f; simp at g; omega)
 replace g : us l j < us l i := by simpa using g
 refine aw ?_
 refine ah (fC rfl ((fun w => yi w _)) Cv rfl (yf b l tl i j (by omega) (by omega))) ?_
 refine bR (swapL l i j, j) ?_ (hμ := ?_)
 have y := a0K r k (by omega) x C u g a
 exact ⟨(lI (by omega) (by omega)).trans h, by show i0 ≤ j; omega, y.1, fun _ => y.2, by show j ≤ n; omega⟩
 show n - j < n - i; omega
theorem a0N b its tl (h : its.length < 1000) : sP W0 461 [nD b] (aU b (its, tl) :: R) (fun v B => ∃ l, v = .tuple #[] ∧ B = aU b (l, tl) :: R ∧ l.Perm its ∧ Heap l l.length) := by
 refine am func461 ntmps461 ?_
 refine ah (fC rfl ((fun w => yg w _)) ve rfl (tf b its tl)) ?_
 refine aa (ng rfl rfl (by decide) ((Qah (IntKind.wrap .i64) (qq its.length 2)).trans (cj (by omega)))) ?_
 refine aa gz ?_
 refine cW (fun X : List It × Nat => X.1.Perm its ∧ X.2 ≤ its.length / 2 ∧ B9 X.2 X.1 its.length) (fun X => [(0, nD b), (2, iQ (its.length : Nat)), (3, iQ ((X.2 : Int) - 1))]) (fun X => aU b (X.1, tl) :: R) (fun X => X.2) (its, its.length / 2) ?_ ?_
 exact ⟨QaN _, Qam _, fun c j f n => by dsimp only at n; omega⟩
 intro ⟨l, k⟩ ⟨a, o, d⟩
 dsimp only at a o d ⊢
 have g := a.length_eq
 refine aw ?_
 refine ai (fun p => ?_) fun p => ?_
 obtain ⟨i, rfl⟩ : ∃ i, k = i + 1 := ⟨k - 1, by omega⟩
 have e : (((i + 1 : Nat) : Int) - 1) = (i : Int) := by omega
 rw [e]
 refine aF rfl (ap zu (a0M b l tl i its.length (by omega) h (by omega) (a0L d))) ?_
 rintro _ _ ⟨q, m, rfl, rfl, r, s⟩
 refine aw ?_
 refine aa gz ?_
 refine bR (q, i) ?_
 grind
 refine bU (.inr rfl) .nil ?_
 obtain rfl : k = 0 := by omega
 exact ⟨_, ⟨l, rfl, rfl, a, fun c j f => d c (by omega) f (QaG _)⟩, IO⟩
structure PF (W0 : World) (f : FuncId) (cs : List Value) (C : HP) (p : It → Bool) : Prop where
  call : ∀ args w, (callFunc f args).run Tryz.prog w = .ok (.enter f args) w
  spec : ∀ x R, bF Tryz.prog W0 f ([] ++ [.agg (bO x).toArray] ++ cs) (kH 0 C :: R) (fun v B => v = .bool (p x) ∧ B = kH 0 C :: R)
theorem EK {α : Type} {f} (h : ∀ x, fi (f x) = true) : ∀ l : List α, fi (l.flatMap f) = true
 | [] => rfl
 | x :: l => by
  have a := h x
  have b := EK h l
  simp only [fi, Qbc, List.all_append, Qan] at a b ⊢
  exact ⟨a, b⟩
theorem a0O x : fi (bO x) = true := rfl
theorem a0P its a c (r : its.length < 1000) (f : cG (aQ W0 R) a 6 bO its) : sP W0 460 [.slice a its.length c] R (fun v B => ∃ g i, v = .slice g its.length i ∧ B = osl 282 6 (.slice g its.length i) (its.flatMap bO) :: R) := by
 refine am func460 ntmps460 ?_
 refine aa (A3 jL rfl rfl) ?_
 refine aC rfl (fun e => ?_) fun e => ?_
 refine au 7 ?_
 refine ac ?_
 have j : its = [] := by
  rcases its with _ | ⟨x, l⟩
  rfl
  obtain ⟨b, o, h, _⟩ := f 0 x rfl
  rw [e] at h; cases h
 subst j
 exact ⟨_, ⟨none, 0, rfl, rfl⟩, fm⟩
 have d := f.src iZ (fun _ => trivial)
 refine jk (aH (aO (aY (aF rfl (vB jL fg rfl) ?_))))
 rintro _ _ ⟨s, rfl, rfl⟩
 refine aw ?_
 refine aF rfl (AA (sz := 6) (by_ := 48) (info := Tryz.t282) jL (by kernel_rfl) rfl rfl rfl rfl (by decide) rfl rfl (news := its.flatMap bO) (by
 rcases d with h | ⟨k, m, n, p⟩
 grind
 right; exact ⟨k, m, n, p.weak⟩) (cF iZ its) (EK a0O its) (by simp only [maxLen]; omega) (by omega)) ?_
 rintro _ _ ⟨q, e, rfl, rfl⟩
 refine aw ?_
 refine ac ?_
 rw [Qac, Qaw]
 exact ⟨_, ⟨q, e, rfl, rfl⟩, IO⟩
def a0Q (its : List It) (p : It → Bool) (r : Int) : Prop := (r = -1 ∧ ∀ i, i < its.length → p (its.getD i default) = false) ∨ ∃ i : Nat, r = (i : Int) ∧ i < its.length ∧ p (its.getD i default) = true ∧ ∀ j, j < i → p (its.getD j default) = false
theorem a0R its a c f cs C p (k : PF W0 f cs C p) (x : its.length < 1000) : sP W0 357 [.slice a its.length c, .func (.func f) #[] cs.toArray] (osl 282 6 (.slice a its.length c) (its.flatMap bO) :: kH 0 C :: R) (fun v B => ∃ r, v = iQ r ∧ B = osl 282 6 (.slice a its.length c) (its.flatMap bO) :: kH 0 C :: R ∧ a0Q its p r) := by
 refine xk (fun d e => ?_) fun g n t l d e m o q => ?_
 have u : its.length = 0 := by grind
 obtain rfl : its = [] := QaE u
 cases d
 refine am GB ntmps357 ?_
 refine cW (fun X : Nat => True) (fun X => [(7, iQ 0), (8, iQ X)]) (fun X => kH 0 C :: R) (fun X => X) 0 ?_ ?_
 trivial
 intro j w
 refine aw ?_
 refine aC rfl (fun h => ?_) fun h => ?_
 omega
 refine aw ?_
 refine ac ?_
 exact ⟨_, ⟨-1, rfl, rfl, .inl ⟨rfl, by simp⟩⟩, fm⟩
 cases d
 refine am GB ntmps357 ?_
 refine cW (fun X : Nat => X ≤ its.length ∧ ∀ i, i < X → p (its.getD i default) = false) (fun X => [(0, .slice (some ⟨g, 0, none⟩) its.length c), (1, .func (.func f) #[] cs.toArray), (7, iQ (its.length : Nat)), (8, iQ X)]) (fun X => pt g (ag (its.flatMap bO ++ l) 282) :: kH 0 C :: R) (fun X => its.length - X) 0 ?_ ?_
 grind
 intro j ⟨w, b⟩
 refine aw ?_
 refine ai (fun h => ?_) fun h => ?_
 refine aa (bM (by omega)) ?_
 refine aa (dj (cQ (lJ its l j (by omega)) rfl)) ?_
 refine ah (ue (us := []) (cs := cs) rfl k.call rfl (k.spec (its.getD j default) _)) ?_
 refine ai (fun s => ?_) fun s => ?_
 refine ac ?_
 exact ⟨_, ⟨_, rfl, rfl, .inr ⟨j, rfl, by omega, s, b⟩⟩, fk e m o q⟩
 refine aa bW ?_
 refine bR (j + 1) ?_
 grind
 refine ac ?_
 exact ⟨_, ⟨-1, rfl, rfl, .inl ⟨rfl, fun i y => b i (by omega)⟩⟩, fk e m o q⟩
def k7 (p : It → Bool) (l : List It) : List It := l.filter (fun x => !p x)
theorem Kc {p l} (h : ∀ i, i < l.length → p (l.getD i default) = false) : k7 p l = l := QaT.2 fun x b => by
 obtain ⟨i, a, rfl⟩ := Qbb.1 b
 have := h i a
 simpa [List.getD, a] using this
theorem EL {p} {l : List It} {j} (h : j < l.length) : k7 p (l.take (j + 1)) = k7 p (l.take j) ++ (if p (l.getD j default) then [] else [l.getD j default]) := by
 grind [Qao, k7]
structure DelI (p : It → Bool) (its l : List It) (i j : Nat) : Prop where
  len : l.length = its.length
  ij : i < j
  jl : j ≤ its.length
  front : l.take i = k7 p (its.take j)
  back : ∀ k, j ≤ k → l.getD k default = its.getD k default
theorem a0S {p} {l : List It} {i} (h : i < l.length) (b : p (l.getD i default) = true) (a : ∀ j, j < i → p (l.getD j default) = false) : k7 p (l.take (i + 1)) = l.take i := by
 grind [EL, Qav, Kc]
theorem DelI.skip {p its l i j} (h : DelI p its l i j) (b : j < its.length) (a : p (l.getD j default) = true) : DelI p its l i (j + 1) := by
 refine ⟨h.len, by have := h.ij; omega, by omega, ?_, fun k c => h.back k (by omega)⟩
 rw [h.back j (Qam _)] at a
 rw [EL b, a, Qad rfl, Qav]; exact h.front
theorem DelI.move {p its l i j} (h : DelI p its l i j) (b : j < its.length) (a : p (l.getD j default) = false) : DelI p its (l.set i (l.getD j default)) (i + 1) (j + 1) := by
 have c := h.ij
 have d := h.len
 have e := h.back j (Qam _)
 rw [e] at a ⊢
 refine ⟨by rw [Qap]; exact d, by omega, by omega, ?_, fun k f => ?_⟩
 rw [EL b, a, Qaa (by decide), ← h.front, Qao (by rw [Qap]; omega), List.getElem_set_self, List.take_set_of_le (Qam _)]
 rw [← h.back k (by omega)]
 simp only [Qas]
 rw [QaW (by omega)]
theorem a0T its a c f cs C p (w : PF W0 f cs C p) (H : its.length < 1000) : sP W0 459 [.slice a its.length c, .func (.func f) #[] cs.toArray] (osl 282 6 (.slice a its.length c) (its.flatMap bO) :: kH 0 C :: R) (fun v B => ∃ D E, v = .slice D (k7 p its).length E ∧ B = osl 282 6 (.slice D (k7 p its).length E) ((k7 p its).flatMap bO) :: kH 0 C :: R) := by
 refine am func459 ntmps459 ?_
 refine aF rfl (cv call357 (a0R its a c f cs C p w H)) ?_
 rintro _ F ⟨r, rfl, d, G⟩
 obtain rfl := d.symm
 refine aw ?_
 refine aC rfl (fun I => ?_) fun I => ?_
 refine au 8 ?_
 refine ac ?_
 have k : ∀ i, i < its.length → p (its.getD i default) = false := by
  rcases G with ⟨_, h⟩ | ⟨i, h, _⟩
  exact h
  omega
 rw [Kc k]
 exact ⟨_, ⟨a, c, rfl, rfl⟩, IO⟩
 obtain ⟨i, rfl, J, x, k⟩ : ∃ i : Nat, r = (i : Int) ∧ i < its.length ∧ p (its.getD i default) = true ∧ ∀ j, j < i → p (its.getD j default) = false := by
  rcases G with ⟨h, _⟩ | h
  omega
  exact h
 refine fV (r := osl 282 6) (b := .slice a its.length c) ?_
 refine ku (fun y _ => by have := (Value.slice.inj y).2.1; omega) fun g n K e y T L U M => ?_
 cases y
 refine aw ?_
 refine aa (dQ (i + 1)) ?_
 refine cW (fun X : List It × Nat × Nat => DelI p its X.1 X.2.1 X.2.2) (fun X => [(0, .slice (some ⟨g, 0, none⟩) its.length c), (1, .func (.func f) #[] cs.toArray), (5, iQ X.2.1), (6, iQ X.2.2)]) (fun X => pt g (ag (X.1.flatMap bO ++ e) 282) :: kH 0 C :: R) (fun X => its.length - X.2.2) (its, i, i + 1) ?_ ?_
 exact ⟨rfl, Nat.lt_succ_self _, by show i + 1 ≤ its.length; omega, (a0S J x k).symm, fun _ _ => rfl⟩
 intro ⟨l, m, j⟩ hD
 dsimp only at hD ⊢
 have V := hD.len
 have N := hD.ij
 have O := hD.jl
 refine aw ?_
 refine aC rfl (fun P => ?_) fun P => ?_
 refine au 2 ?_
 refine cy (fun Z : List It × Nat => DelI p its Z.1 Z.2 (j + 1)) (fun Z => [(0, .slice (some ⟨g, 0, none⟩) its.length c), (1, .func (.func f) #[] cs.toArray), (5, iQ Z.2), (6, iQ j)]) (fun Z => pt g (ag (Z.1.flatMap bO ++ e) 282) :: kH 0 C :: R) ?_ ?_
 refine au 5 ?_
 refine aa (bM (by omega)) ?_
 refine aa (dj (cQ (lJ l e j (by omega)) rfl)) ?_
 refine bu fun W => ?_
 refine fh (gi fg rfl rfl rfl rfl rfl) ?_
 rintro _ _ rfl
 refine aL (aH (aO (aY (ae rfl (aM rfl) (ae rfl (pE mY fg rfl rfl) ?_)))))
 refine aF rfl (ue (us := []) (cs := cs) rfl w.call rfl (w.spec (l.getD j default) _)) ?_
 rintro _ F ⟨rfl, d⟩
 obtain rfl := d.symm
 refine ae rfl (rz rfl) (aL (aH ?_))
 refine aC rfl (fun z => ?_) fun z => ?_
 have o : p (l.getD j default) = false := by simpa using z
 refine aO (aY (ae rfl (aM rfl) (ae rfl (aM rfl) (ae rfl (pE mY fg rfl rfl) ?_))))
 refine ae rfl (jQ jL fg rfl rfl rfl (by omega) (by first | exact Qac _ | rfl)) ?_
 refine ar (iD (pR l e m (by omega)) (qQ l e m (l.getD j default) (by omega))) ?_
 refine aa (dQ (m + 1)) ?_
 exact bq (l.set m (l.getD j default), m + 1) (hD.move (by omega) o)
 have o : p (l.getD j default) = true := by simpa using z
 refine aw ?_
 exact bq (l, m) (hD.skip (by omega) o)
 intro ⟨Q, S⟩ hD2
 refine aw ?_
 refine aa (dQ (j + 1)) ?_
 refine bR (Q, S, j + 1) ?_ (hμ := ?_)
 exact hD2
 show its.length - (j + 1) < its.length - j; omega
 refine aw ?_
 obtain rfl : j = its.length := by omega
 have q := hD.front
 rw [QaU (Qam _)] at q
 have A : (k7 p its).length = m := by rw [← q, QaQ]; omega
 refine aa (xU jL fg rfl rfl rfl (by omega) (by omega) (Qac _)) ?_
 refine fh (E7 jL sr (by simp [Value.cells, Value.oneCell']) rfl (by omega) (by rw [Qae, cF iZ]; show m * 6 + (its.length - m) * 6 ≤ _; omega)) ?_
 rintro _ F ⟨u, s, rfl, d⟩
 obtain rfl := d.symm
 replace s : u.length = (its.length - m) * 6 := s
 have t : d7 (l.flatMap bO ++ e) (m * 6) u = (k7 p its).flatMap bO ++ (u ++ e) := by
  rw [sK _ _ _ (by rw [Qae, cF iZ]; omega), CZ iZ l m e (by omega), q, show m * 6 + u.length = l.length * 6 by omega, xh iZ l l.length e (Qam _)]
  simp
 rw [t]
 refine aw ?_
 refine aa (oM jL fg rfl rfl rfl (by omega)) ?_
 refine ac ?_
 rw [A]
 exact ⟨_, ⟨_, _, rfl, rfl⟩, fk (by omega) L (by rw [cF iZ, A]) (by rw [← M]; simp only [Qae, cF iZ, A, s]; omega)⟩
def i64 (r : Int) : Prop := -9223372036854775808 ≤ r ∧ r < 9223372036854775808
theorem Kd r : ((BitVec.ofInt 64 r).toNat) = r % 18446744073709551616 := by
 rw [BitVec.toNat_ofInt]; omega
theorem Ke n : n &&& 2 = 2 * (n / 2 % 2) := by
 apply Nat.eq_of_testBit_eq
 intro i
 rw [Nat.testBit_and, show (2 : Nat) = 2 ^ 1 from rfl, Nat.testBit_two_pow, Nat.testBit_two_pow_mul]
 by_cases h : i = 1
 grind
 grind [QcC, Qcd, Qct, Nat.testBit_lt_two_pow]
theorem a0U {r} (h : i64 r) : e6 .i64 r 2 = 2 * (r / 2 % 2) := by
 have a := Kd r
 show IntKind.wrap .i64 ((BitVec.ofInt 64 r &&& BitVec.ofInt 64 2).toNat : Int) = _
 rw [BitVec.toNat_and, show (BitVec.ofInt 64 2).toNat = 2 from rfl, Ke, cj (by omega)]
 push_cast
 omega
theorem a0V {r} (h : i64 r) : ru .i64 r 2 = r - 2 * (r / 2 % 2) := by
 have d := Kd r
 generalize f : BitVec.ofInt 64 r = x at d
 have e : (x &&& ~~~ BitVec.ofInt 64 2).toNat = x.toNat - (x.toNat &&& 2) := by
  have a : (x &&& ~~~ BitVec.ofInt 64 2) &&& (x &&& BitVec.ofInt 64 2) = 0#64 := by
   ext i hi
   simp only [BitVec.getElem_and, BitVec.getElem_not, BitVec.getElem_zero]
   cases x[i] <;> cases (BitVec.ofInt 64 2)[i] <;> rfl
  have b : (x &&& ~~~ BitVec.ofInt 64 2) + (x &&& BitVec.ofInt 64 2) = x := by
   rw [BitVec.add_eq_or_of_and_eq_zero _ _ a]
   ext i hi
   simp only [BitVec.getElem_or, BitVec.getElem_and, BitVec.getElem_not]
   cases x[i] <;> cases (BitVec.ofInt 64 2)[i] <;> rfl
  have c := Qah BitVec.toNat b
  rw [BitVec.toNat_add_of_and_eq_zero a, BitVec.toNat_and x (BitVec.ofInt 64 2), show (BitVec.ofInt 64 2).toNat = 2 from rfl] at c
  omega
 show IntKind.wrap .i64 ((BitVec.ofInt 64 r &&& ~~~ BitVec.ofInt 64 2).toNat : Int) = _
 rw [f, e, Ke]
 have g := x.isLt
 obtain ⟨b, c⟩ := h
 simp only [IntKind.wrap, IntKind.bits, IntKind.signed]
 simp
 omega
def wB (r : Int) : Bool := decide (r / 2 % 2 = 1)
theorem Ba {r} (h : i64 r) : (e6 .i64 r 2 ≠ 0) ↔ wB r = true := by rw [a0U h, wB, Qaj]; omega
theorem Kf {r} (h : i64 r) : ru .i64 r 2 = if wB r then r - 2 else r := by
 grind [a0V, wB]
def hit (page : Int) (x : It) : Bool := decide (x.ep = page) && wB x.er
def jI (page : Int) (x : It) : It := if hit page x then { x with er := x.er - 2 } else x
theorem Kg page x : (jI page x).key = x.key := by unfold jI; split <;> rfl
theorem ym page x : (jI page x).u = x.u := by unfold jI; split <;> rfl
theorem a0W {page x} (h : i64 x.er) : i64 (jI page x).er := by
 unfold jI; split
 rename_i a
 simp only [hit, wB, Qan, Qaj] at a
 obtain ⟨b, c⟩ := h
 refine ⟨?_, ?_⟩
 grind
 grind
 exact h
theorem a0X (a : List It) sp i r (b : i < a.length) : (a.flatMap bO ++ sp).set (i * 6 + 4) (iQ r) = (a.set i { a.getD i default with er := r }).flatMap bO ++ sp :=
  qj iZ a i 4 _ _ sp b (by decide) (by simp [List.getD, b, bO])
structure NarI (page : Int) (its l : List It) (i n : Nat) : Prop where
  len : l.length = its.length
  il : i ≤ its.length
  front : l.take i = (its.take i).map (jI page)
  back : ∀ k, i ≤ k → l.getD k default = its.getD k default
  cnt : n = ((its.take i).filter (hit page)).length
theorem NarI.step {page its l i n} (h : NarI page its l i n) (a : i < its.length) : NarI page its (l.set i (jI page (l.getD i default))) (i + 1) (n + if hit page (l.getD i default) then 1 else 0) := by
 have d := h.len
 have b := h.back i (Qam _)
 have c : its.getD i default = its[i] := by grind
 refine ⟨by rw [Qap]; exact d, by omega, ?_, fun k f => ?_, ?_⟩
 rw [Qao (by rw [Qap]; omega), List.getElem_set_self, List.take_set_of_le (Qam _), h.front, Qao a, QaH, b, c]; rfl
 rw [← h.back k (by omega)]
 simp only [Qas]
 rw [QaW (by omega)]
 rw [Qao a, QbF, Qae, ← h.cnt, b, c]
 cases e : hit page its[i] <;> simp [e]
theorem NarI.skip {page its l i n} (h : NarI page its l i n) (a : i < its.length) (b : hit page (l.getD i default) = false) : NarI page its l (i + 1) n := by
 have := h.step a
 rw [jI, b, Qaa (by decide), Qaa (by decide), QbM] at this
 have c : l.set i (l.getD i default) = l := by
  have d : i < l.length := by rw [h.len]; exact a
  rw [show l.getD i default = l[i] by simp [List.getD, d], QbU]
 rwa [c] at this
theorem NarI.hits {page its l i n} (h : NarI page its l i n) (a : i < its.length) (b : hit page (l.getD i default) = true) : NarI page its (l.set i { l.getD i default with er := (l.getD i default).er - 2 }) (i + 1) (n + 1) := by
 have := h.step a
 rw [jI, b, Qad rfl, Qad rfl] at this
 exact this
def nrN (page : Int) (L : List It) : Nat := (L.filter (hit page)).length
theorem Kh {l f} (a : ∀ x, (f x).u = x.u) {i} (b : i < l.length) : us (l.map f) i = us l i := by
 grind [us_eq]
theorem Rep.nar {its L now} (h : Rep its now L) page : Rep (its.map (jI page)) now (L.map (jI page)) := by
 refine ⟨h.perm.map _, fun c d f => ?_, ?_, fun x g => ?_, ?_⟩
 rw [Qay] at d
 rw [Kh (ym page) (by omega), Kh (ym page) d]
 exact h.heap c d f
 rw [List.pairwise_map]
 exact h.sort.imp fun {a b} e => by rw [ym, ym]; exact e
 obtain ⟨y, i, rfl⟩ := QaX.1 g
 rw [ym]; exact h.le y i
 rw [List.map_map, show It.key ∘ jI page = It.key from funext fun x => Kg page x]
 exact h.keys
theorem a0Z b its rm nw page (B : its.length < 1000) (t : ∀ x ∈ its, i64 x.er) : sQ W0 424 [pQ b, iQ page] (aU b (its, [rm, nw, .bool true]) :: R) (iQ (nrN page its)) (aU b (its.map (jI page), [rm, nw, .bool true]) :: R) := by
 refine am func424 ntmps424 ?_
 refine ah (ap zB (wn b its rm nw)) ?_
 refine AX (b := b) fun C D => ?_
 refine aw ?_
 refine ge (fun X : List It × Nat × Nat => NarI page its X.1 X.2.1 X.2.2) (fun X => [(0, pQ b), (1, iQ page), (5, iQ X.2.2), (15, iQ (its.length : Nat)), (16, iQ X.2.1)]) (fun X => aU b (X.1, [rm, nw, .bool true]) :: R) (fun X => its.length - X.2.1) (its, 0, 0) ?_ ?_ ?_ ?_
 exact ⟨rfl, QaG _, by simp, fun _ _ => rfl, by simp⟩
 · repeat (first | exact bK | refine aZ rfl ?_)
 exact rY rfl
 intro ⟨l, i, n⟩ hD
 dsimp only at hD ⊢
 have E := hD.len
 have u := hD.il
 have v : n ≤ its.length := by
  rw [hD.cnt]
  exact Qba (QaL _ _) (by grind)
 refine aw ?_
 refine aC rfl (fun w => ?_) fun w => ?_
 have a : i < l.length := by omega
 have d : i64 (l.getD i default).er := by
  rw [hD.back i (Qam _)]
  have h : i < its.length := by omega
  have := t _ (QaF h)
  rwa [show its.getD i default = its[i] by simp [List.getD, h]]
 refine Ez (b := b) (wm a) fun g c j F r s => ?_
 refine au 2 ?_
 refine cy (fun Z : List It × Nat => NarI page its Z.1 (i + 1) Z.2) (fun Z => [(0, pQ b), (1, iQ page), (5, iQ Z.2), (15, iQ (its.length : Nat)), (16, iQ i)]) (fun Z => aU b (Z.1, [rm, nw, .bool true]) :: R) ?_ ?_
 refine au 15 ?_
 refine aa (bM a) ?_
 refine aa (aE (aI ((ya l j i 2 a (by decide)).trans rfl))) ?_
 refine bN (fun k => ?_) fun k => ?_
 refine aa (aE (aI ((ya l j i 4 a (by decide)).trans rfl))) ?_
 refine aa (eC rfl rfl rfl) ?_
 refine ai (fun y => ?_) fun y => ?_
 refine aa (aE (aI ((ya l j i 4 a (by decide)).trans rfl))) ?_
 refine aa (zL rfl rfl (by rw [Kf d, Qad ((Ba d).1 (by omega))] : ru .i64 (l.getD i default).er 2 = (l.getD i default).er - 2)) ?_
 refine ar (dt (by have := pR l j i a; omega) (a0X l j i ((l.getD i default).er - 2) a)) ?_
 refine aa (dQ (n + 1)) ?_
 refine bq (l.set i { l.getD i default with er := (l.getD i default).er - 2 }, n + 1) ?_ (he := ?_)
 have m := (Ba d).1 (by omega)
 exact hD.hits (by omega) (by simp only [hit, Qan, Qaj]; exact ⟨by omega, m⟩)
 exact te (b := b) rfl (by rw [Qap]) (by omega) r (by rw [← s]; simp [cF iZ])
 refine bq (l, n) ?_ (he := ?_)
 refine hD.skip (by omega) ?_
 first
   | (have e : ¬ (l.getD i default).ep = page := by omega
      rw [hit, Qal e]; rfl)
   | (have m : ¬ wB (l.getD i default).er = true := fun q => absurd ((Ba d).2 q) (by omega)
      have f : wB (l.getD i default).er = false := by simpa using m
      rw [hit, f, QcT])
 exact te (b := b) rfl rfl (by omega) r s
 refine bq (l, n) ?_ (he := ?_)
 refine hD.skip (by omega) ?_
 first
   | (have e : ¬ (l.getD i default).ep = page := by omega
      rw [hit, Qal e]; rfl)
   | (have m : ¬ wB (l.getD i default).er = true := fun q => absurd ((Ba d).2 q) (by omega)
      have f : wB (l.getD i default).er = false := by simpa using m
      rw [hit, f, QcT])
 exact te (b := b) rfl rfl (by omega) r s
 intro ⟨z, A⟩ hD2
 refine aw ?_
 refine aa bW ?_
 refine bR (z, i + 1, A) ?_ (hμ := ?_)
 exact hD2
 show its.length - (i + 1) < its.length - i; omega
 refine aw ?_
 refine ac ?_
 obtain rfl : i = its.length := by omega
 have o := hD.front
 have p := hD.cnt
 rw [QaU (by omega), QaU (Qam _)] at o
 rw [QaU (Qam _)] at p
 rw [p, o]
 exact ao
theorem Rep.keep {its its' L now p} (h : Rep its now L) (a : its'.Perm (k7 p its)) (b : Heap its' its'.length) : Rep its' now (k7 p L) :=
  ⟨a.trans (h.perm.filter _), b, h.sort.filter _, fun x c => h.le x (QaD.1 c).1, QcG (QcB _ QbA) h.keys⟩
theorem a00 p l : (k7 p l).length ≤ l.length := QaL _ _
theorem a01 b its tl f cs C p (i : PF W0 f cs C p) (g : its.length < 1000) : sP W0 432 [pQ b, .func (.func f) #[] cs.toArray] (aU b (its, tl) :: kH 0 C :: R) (fun v B => ∃ l, v = iQ (its.length - (k7 p its).length : Nat) ∧ B = aU b (l, tl) :: kH 0 C :: R ∧ l.Perm (k7 p its) ∧ Heap l l.length) := by
 have j := a00 p its
 refine am func432 ntmps432 ?_
 refine ah (ap ve (tf b its tl)) ?_
 refine AX (b := b) fun a c => ?_
 refine mr (E := 282) (sz := 6) (a := a) (n := its.length) (c := c) bO its iZ (by decide) rfl (fun k => ?_)
 refine aw ?_
 refine aF rfl (aB call460 (a0P its a c g k)) ?_
 rintro _ h ⟨m, o, rfl, d⟩
 obtain rfl := d.symm
 refine aw ?_
 refine aF rfl (cv call459 (a0T its m o f cs C p i g)) ?_
 rintro _ h ⟨s, t, rfl, d⟩
 obtain rfl := d.symm
 refine aw ?_
 refine ar dX ?_
 refine eK (B := aU b (k7 p its, tl) :: kH 0 C :: R) (rY rfl) ?_
 refine aw ?_
 refine aF rfl (ap call461 (a0N b (k7 p its) tl (by omega))) ?_
 rintro _ h ⟨l, rfl, d, e, q⟩
 obtain rfl := d.symm
 have r := e.length_eq
 refine aw ?_
 refine ah (ap ve (tf b l tl)) ?_
 refine aa (nV (its.length - (k7 p its).length)) ?_
 refine ac ?_
 exact ⟨_, ⟨l, rfl, rfl, e, q⟩, IO⟩
theorem a02 W0 : PF W0 433 [] (cq []) (fun _ => true) := ⟨call433, fun x R => by
 refine am func433 ntmps433 ?_
 refine bB fun a => ?_
 exact ac ao
 ⟩
theorem Bb l : k7 (fun _ => true) l = [] := by simp [k7]
theorem a03 b its rm nw now L (e : Rep its now L) (g : its.length < 1000) : sP W0 400 [pQ b] (aU b (its, [rm, nw, .bool true]) :: R) (fun v B => v = iQ L.length ∧ ∃ a, B = aU b (a, [rm, nw, .bool true]) :: R ∧ Rep a now []) := by
 have c := e.length
 refine am func400 ntmps400 ?_
 refine ah (ap zB (wn b its rm nw)) ?_
 refine eK (B := aU b (its, [rm, nw, .bool true]) :: kH 0 (cq []) :: R) inferInstance ?_
 refine aw ?_
 refine aF rfl (cv call432 (a01 b its _ 433 [] _ _ (a02 W0) g)) ?_
 rintro _ j ⟨l, rfl, d, h, i⟩
 obtain rfl := d.symm
 rw [Bb] at h
 rw [Bb, c]
 refine aw ?_
 refine ac ?_
 have f := e.keep (p := fun _ => true) (by grind [Bb]) i
 rw [Bb] at f
 exact ⟨_, ⟨rfl, l, rfl, f⟩, IO⟩
structure Ln where
  k : dp
  e : jH
  rt : Int
  lf : Int
instance : Inhabited Ln := ⟨⟨(0, 0), (0, 0, 0), 0, 0⟩⟩
@[reducible] def dm (x : Ln) : List Value := [.int .i64 x.k.1, .int .i64 x.k.2, .int .i64 x.e.1, .int .i64 x.e.2.1, .int .i64 x.e.2.2, .int .i64 x.rt, .int .i64 x.lf]
theorem nF x : (dm x).length = 7 := rfl
theorem Ki x : fi (dm x) = true := rfl
def Ln.thr (x : Ln) (p : Int) : Bool := decide (x.rt = p) || decide (x.lf = p)
theorem tq {x : Ln} {p} : x.thr p = true ↔ x.rt = p ∨ x.lf = p := by simp [Ln.thr]
def gL (L : List Ln) (p : Int) : Bool := L.any fun x => x.thr p
theorem uH {L p} : gL L p = true ↔ ∃ x ∈ L, x.thr p = true := by simp [gL]
def ig (r : Int) : Int := if wB r then r - 2 else r
theorem Bc r : wB (ig r) = false := by
 grind [ig, wB]
def Ln.nar (x : Ln) : Ln := { x with e := (x.e.1, x.e.2.1, ig x.e.2.2) }
theorem Kj {x : Ln} (h : wB x.e.2.2 = false) : x.nar = x := by
 obtain ⟨k, ⟨a, b, c⟩, r, l⟩ := x
 simp only [Ln.nar, ig] at h ⊢
 rw [h]; rfl
def mc (L : List Ln) (r l : Int) : List Int := (if r = l then [r] else [min r l, max r l]).filter fun p => !gL L p
theorem Kk {L r l p} : p ∈ mc L r l ↔ (p = r ∨ p = l) ∧ gL L p = false := by
 grind [mc]
def dN (r l : Int) (x : Ln) : Ln := if x.e.1 = r ∨ x.e.1 = l then x.nar else x
def wt (L : List Ln) : List Ln := match L.getLast? with
 | none => []
 | some y => L.dropLast ++ [if gL L y.e.1 then y.nar else y]
def yn (k : dp) (e : jH) (r l : Int) (L : List Ln) : List Ln := L.filter (fun x => decide (x.k ≠ k)) ++ [⟨k, e, r, l⟩]
def yo (L : List Ln) : List Ln := if 32 < L.length then L.tail else L
def md (k : dp) (e : jH) (r l : Int) (L : List Ln) : List Ln := wt ((yo (yn k e r l L)).map (dN r l))
def kU (k : dp) (L : List Ln) : Option Ln := L.find? fun x => decide (x.k = k)
theorem Kl L y : wt (L ++ [y]) = L ++ [if gL (L ++ [y]) y.e.1 then y.nar else y] := by
 grind [wt]
theorem a04 (x : Ln) p : x.nar.thr p = x.thr p := rfl
theorem Km r l x p : (dN r l x).thr p = x.thr p := by unfold dN; split <;> rfl
theorem Kn r l x : (dN r l x).k = x.k := by unfold dN; split <;> rfl
theorem Ko r l x : (dN r l x).e.1 = x.e.1 := by unfold dN; split <;> rfl
theorem Kp {f} (h : ∀ x p, (f x).thr p = x.thr p) L p : gL (L.map f) p = gL L p := by
 grind [gL]
theorem Kq A B p : gL (A ++ B) p = (gL A p || gL B p) := by simp [gL]
def kV (k : dp) (L : List Ln) : List Ln := if 31 < (L.filter fun x => decide (x.k ≠ k)).length then (L.filter fun x => decide (x.k ≠ k)).tail else L.filter fun x => decide (x.k ≠ k)
theorem Kr k L : (kV k L).Sublist (L.filter fun x => decide (x.k ≠ k)) := by
 grind [kV]
theorem EM {k L x} (h : x ∈ kV k L) : x ∈ L ∧ x.k ≠ k := by
 grind [Kr]
theorem Ks {k L} (h : L.length ≤ 32) : (kV k L).length ≤ 31 := by
 grind [QaL, kV]
def lu (k : dp) (e : jH) (r l : Int) (L : List Ln) : Ln :=
  if gL (kV k L) e.1 || (⟨k, e, r, l⟩ : Ln).thr e.1 then (⟨k, e, r, l⟩ : Ln).nar else ⟨k, e, r, l⟩
theorem a05 (x : Ln) : x.nar.nar = x.nar := Kj (Bc _)
theorem EN k e r l L (h : L.length ≤ 32) : md k e r l L = (kV k L).map (dN r l) ++ [lu k e r l L] := by
 have a : yo (yn k e r l L) = kV k L ++ [⟨k, e, r, l⟩] := by
  grind [yo, yn, kV]
 unfold md
 rw [a, QaH, QcH, Kl]
 congr 1
 rw [← QcH (f := dN r l), ← QaH, Kp (Km r l), Kq, Ko]
 have b : gL [(⟨k, e, r, l⟩ : Ln)] e.1 = (⟨k, e, r, l⟩ : Ln).thr e.1 := by simp [gL]
 rw [b]
 unfold lu
 by_cases q : e.1 = r ∨ e.1 = l
 have c : dN r l ⟨k, e, r, l⟩ = (⟨k, e, r, l⟩ : Ln).nar := Qad q
 have d : (⟨k, e, r, l⟩ : Ln).thr e.1 = true := by
  grind [tq]
 rw [c, d, QcE, Qad rfl, Qad rfl, a05]
 grind [dN]
theorem Be k e r l L : (lu k e r l L).k = k := by unfold lu; split <;> rfl
theorem EO k e r l L : lu k e r l L = ⟨k, e, r, l⟩ ∨ lu k e r l L = (⟨k, e, r, l⟩ : Ln).nar := by unfold lu; split <;> simp
structure TI (L : List Ln) (TL : List It) : Prop where
  keys : (L.map Ln.k).Nodup
  len : L.length ≤ 32
  nowr : ∀ x ∈ L, wB x.e.2.2 = true → gL L x.e.1 = false
  sub : ∀ y ∈ TL, ∃ x ∈ L, x.k = y.key ∧ x.e = y.ent
theorem TI.nil : TI [] [] := ⟨QcZ, QaG _, fun x a => by simp at a, fun y b => by simp at b⟩
theorem Bf {k L x} (h : kU k L = some x) : x ∈ L ∧ x.k = k := ⟨Qcp h, by simpa using List.find?_some h⟩
theorem Ku {L : List Ln} (h : (L.map Ln.k).Nodup) {x y} (b : x ∈ L) (d : y ∈ L) (e : x.k = y.k) : x = y := by
 induction L with
 | nil => simp at b
 | cons a L f =>
  simp only [QaM, Qbx] at h
  rcases QaO.1 b with rfl | c
  grind
  grind
theorem EP {L} (h : (L.map Ln.k).Nodup) {x} (a : x ∈ L) : kU x.k L = some x := by
 cases b : kU x.k L with
 | none =>
  have := QbX.1 b x a
  simp at this
 | some z =>
  obtain ⟨c, d⟩ := Bf b
  rw [Ku h c a d]
theorem TI.drop {L TL TL'} (h : TI L TL) (f : Ln → Bool) (d : ∀ y ∈ TL', y ∈ TL ∧ ∀ x ∈ L, f x = true → y.key ≠ x.k) : TI (L.filter fun x => !f x) TL' := by
 refine ⟨QcG (QcB _ QbA) h.keys, Qba (QaL _ _) h.len, fun x a e => ?_, fun y g => ?_⟩
 have a := (QaD.1 a).1
 have := h.nowr x a e
 rw [← Qau, uH] at this ⊢
 rintro ⟨z, i, b⟩
 exact this ⟨z, (QaD.1 i).1, b⟩
 obtain ⟨j, l⟩ := d y g
 obtain ⟨x, a, c, m⟩ := h.sub y j
 refine ⟨x, QaD.2 ⟨a, ?_⟩, c, m⟩
 cases n : f x with
 | false => rfl
 | true => exact absurd c.symm (l x a n)
theorem EQ {k x y L} : y ∈ lK k x L ↔ (y ∈ L ∧ y.key ≠ k) ∨ y = x := by simp [lK, tj]
theorem TI.getT {L TL} (h : TI L TL) now k : TI L (tp now k TL) := by
 refine ⟨h.keys, h.len, h.nowr, fun y a => ?_⟩
 unfold tp at a
 cases b : nE k TL with
 | none => rw [b] at a; exact h.sub y a
 | some z =>
  rw [b] at a
  obtain ⟨c, d⟩ := B7 b
  rcases EQ.1 a with ⟨q, _⟩ | rfl
  exact h.sub y q
  obtain ⟨x, e, f, g⟩ := h.sub z c
  exact ⟨x, e, by rw [f, d]; rfl, by rw [g]; rfl⟩
theorem Kv {room now k e L y} (h : y ∈ oo room now k e L) : (y ∈ L ∧ y.key ≠ k) ∨ y = mb k e (now + 1 : Nat) := by
 unfold oo at h
 split at h
 exact EQ.1 (List.mem_of_mem_tail h)
 exact EQ.1 h
theorem TI.putT {L TL} (h : TI L TL) room now {x} (a : x ∈ L) : TI L (oo room now x.k x.e TL) := by
 refine ⟨h.keys, h.len, h.nowr, fun y b => ?_⟩
 rcases Kv b with ⟨q, _⟩ | rfl
 exact h.sub y q
 exact ⟨x, a, rfl, rfl⟩
def kW (l : List Int) (TL : List It) : List It := l.foldl (fun A p => A.map (jI p)) TL
theorem a06 p y : (jI p y).ent = if y.ep = p then (y.ent.1, y.ent.2.1, ig y.ent.2.2) else y.ent := by
 unfold jI hit ig
 by_cases q : y.ep = p
 rw [Qai q, Qbe, Qad q]
 show _ = (y.ep, y.ef, if wB y.er = true then y.er - 2 else y.er)
 cases a : wB y.er <;> rfl
 grind
theorem a07 {l} : ∀ {TL : List It} {y : It}, y ∈ kW l TL → ∃ z ∈ TL, y.key = z.key ∧ y.ent = if z.ep ∈ l then (z.ent.1, z.ent.2.1, ig z.ent.2.2) else z.ent := by
 induction l with
 | nil => intro TL y h; exact ⟨y, h, rfl, by simp⟩
 | cons p l b =>
  intro TL y h
  obtain ⟨z, c, d, e⟩ := b (TL := TL.map (jI p)) h
  obtain ⟨w, f, rfl⟩ := QaX.1 c
  refine ⟨w, f, by rw [d, Kg], ?_⟩
  have a : (jI p w).ep = w.ep := by grind [jI]
  rw [e, a, a06]
  by_cases g : w.ep = p
  grind [QaO.2, Bc, ig]
  grind
theorem TI.fill {L TL} (h : TI L TL) k e r l room now :
    TI (md k e r l L) ((oo room now k (lu k e r l L).e (kW (mc L r l) TL)).filter fun y => (kU y.key (md k e r l L)).isSome) := by
 have i := EN k e r l L h.len
 have c : ∀ x ∈ kV k L, x ∈ L ∧ x.k ≠ k := fun x d => EM d
 have w : ∀ p, gL (md k e r l L) p = (gL (kV k L) p || (⟨k, e, r, l⟩ : Ln).thr p) := fun p => by
  rw [i, Kq, Kp (Km r l)]
  congr 1
  rcases EO k e r l L with q | q <;> rw [q] <;> simp [gL, a04]
 have f : ((md k e r l L).map Ln.k).Nodup := by
  rw [i, QaH, List.map_map, show Ln.k ∘ dN r l = Ln.k from funext fun x => Kn r l x, QcH, Be]
  refine Qbp.2 ⟨QcG (QcB _ ((Kr k L).trans QbA)) h.keys, by simp, fun a K b R => ?_⟩
  obtain rfl : b = k := by grind
  obtain ⟨x, d, rfl⟩ := QaX.1 K
  exact (c x d).2
 have m : lu k e r l L ∈ md k e r l L := by rw [i]; simp
 refine ⟨f, ?_, fun x d g => ?_, fun y M => ?_⟩
 rw [i, Qae, Qay, QbV]
 have := Ks (k := k) h.len; omega
 rw [w]
 rw [i] at d
 rcases QaS.1 d with d | d
 obtain ⟨z, A, rfl⟩ := QaX.1 d
 obtain ⟨B, _⟩ := c z A
 rw [Ko]
 by_cases q : z.e.1 = r ∨ z.e.1 = l
 rw [dN, Qad q] at g
 rw [show z.nar.e.2.2 = ig z.e.2.2 from rfl, Bc] at g; cases g
 rw [dN, Qaa q] at g
 have S := h.nowr z B g
 rw [QcS]
 refine ⟨?_, ?_⟩
 grind [uH]
 rw [← Qau, tq]
 rintro (G | G)
 grind
 grind
 grind [lu, Ln.nar, ig, Bc]
 obtain ⟨C, n⟩ := QaD.1 M
 rcases Kv C with ⟨q, N⟩ | rfl
 obtain ⟨z, A, T, O⟩ := a07 q
 obtain ⟨x, d, G, t⟩ := h.sub z A
 cases H : kU y.key (md k e r l L) with
 | none => rw [H] at n; cases n
 | some P =>
  obtain ⟨j, I⟩ := Bf H
  refine ⟨P, j, I, ?_⟩
  rw [i] at j
  rcases QaS.1 j with j | j
  obtain ⟨u, Q, rfl⟩ := QaX.1 j
  obtain ⟨o, _⟩ := c u Q
  rw [Kn] at I
  have D : u = x := Ku h.keys o d (by grind)
  subst D
  have E : z.ep = u.e.1 := by rw [t]; rfl
  rw [O, E]
  by_cases v : u.e.1 = r ∨ u.e.1 = l
  rw [dN, Qad v]
  by_cases s : u.e.1 ∈ mc L r l
  rw [Qad s, ← t]; rfl
  rw [Qaa s]
  have J : gL L u.e.1 = true := by
   rw [← Bool.not_eq_false]; intro F
   exact s (Kk.2 ⟨v, F⟩)
  have g : wB u.e.2.2 = false := by
   rw [← Qau]; intro F
   rw [h.nowr u o F] at J; cases J
  rw [Kj g, t]
  rw [dN, Qaa v, Qaa (fun s => v (Kk.1 s).1), t]
  grind [lu, Be]
 exact ⟨_, m, Be k e r l L, rfl⟩
def bJ (b : Nat) (L : List Ln) : HP := chk (fun C => ∃ a c, C = [pt b (ag [.slice a L.length c, .bool true] 276), osl 278 7 (.slice a L.length c) (L.flatMap dm)])
section
variable {P : Program} {W0 : World} {R A : List HP} {b : Nat} {L : List Ln} {f : FuncId} {args : List Value} {Post : Value → List HP → Prop}
theorem tt {a c n R1 R2 B} [d : Tk pt b A (ag [.slice a n c, .bool true] 276) R1] [e : Tk (osl 278 7) (.slice a n c) R1 (L.flatMap dm) R2] (f : n = L.length) [k : Ent R2 B] : Ent A (bJ b L :: B) := by
 subst f
 exact (Ent.ofPerm (d.perm.trans (e.perm.cons _))).trans ((Ent.cons (Ent.cons k)).trans (fK (R := B) (C := [_, _]) ⟨a, c, rfl⟩))
theorem wu {N K e} [f : Tk bJ b A L R] (h : ∀ a c, av W0 N K e (pt b (ag [.slice a L.length c, .bool true] 276) :: osl 278 7 (.slice a L.length c) (L.flatMap dm) :: R)) : av W0 N K e A :=
  fV (r := bJ) (b := b) (ni fun C d => by obtain ⟨a, c, rfl⟩ := d; exact h a c)
theorem a08 {N K e} [o : Tk bJ b A L R] (j : L ≠ []) (h : ∀ g c d, L.length ≤ c → c ≤ maxLen → (L.flatMap dm ++ d).length = c * 7 → av W0 N K e (pt b (ag [.slice (some ⟨g, 0, none⟩) L.length c, .bool true] 276) :: pt g (ag (L.flatMap dm ++ d) 278) :: R)) : av W0 N K e A :=
  wu (b := b) fun a c => qf (List.Perm.swap _ _ _) (ku (fun i f => by
      have := cF nF L
      rw [f] at this
      exact absurd (QaE (by grind)) j)
    (fun g n k d i f l p m => by
      cases i
      exact qf (List.Perm.swap _ _ _) (h g _ d f l m)))
theorem Kw {g c n xs sp R1 R2 B} [a : Tk pt b A (ag [.slice (some ⟨g, 0, none⟩) n c, .bool true] 276) R1] [l : Tk pt g R1 (ag (xs ++ sp) 278) R2] (d : xs = L.flatMap dm) (f : n = L.length) (h : n ≤ c) (i : c ≤ maxLen) (j : (xs ++ sp).length = c * 7) [k : Ent R2 B] : Ent A (bJ b L :: B) := by
 subst f
 subst d
 have e : Ent R1 (osl 278 7 (.slice (some ⟨g, 0, none⟩) L.length c) (L.flatMap dm) :: B) := fk h i (cF nF L) j
 exact (Ent.ofPerm a.perm).trans ((Ent.cons e).trans (fK (R := B) (C := [_, _]) ⟨_, c, rfl⟩))
theorem a09 [g : Tk bJ b A L R] : kf (aQ W0 A) b 1 (.bool true) := fun w (e : Own W0 w A) => by
 obtain ⟨C, ⟨a, c, rfl⟩, d⟩ := (e.tk (r := bJ) (b := b)).chk
 have f : kf (aQ W0 (pt b (ag [.slice a L.length c, .bool true] 276) :: (osl 278 7 (.slice a L.length c) (L.flatMap dm) :: R))) b 1 (.bool true) := aI rfl
 exact f w d
end
theorem uI b L : sQ W0 151 [pQ b] (bJ b L :: R) (.bool false) (bJ b L :: R) := by
 refine am func151 ntmps151 ?_
 refine dk rfl rfl rfl (fun a => ?_) fun a => ?_
 cases a
 refine aw ?_
 refine aa (aE a09) ?_
 exact ac ao
def uJ (p : Int) : Bool := decide (0 ≤ p ∧ p < 8)
theorem Kx p : sQ W0 442 [iQ p] R (.bool (uJ p)) R := by
 refine am func442 ntmps442 ?_
 refine bN (fun a => ?_) fun a => ?_
 refine ac ?_
 refine aG ?_
 refine Qah Value.bool ?_
 rw [Qag, uJ, Qaj]
 first
   | (rw [Qaj]; constructor <;> (intro q; omega))
   | (constructor
      · intro q; first | omega | (cases q)
      intro q; omega)
 refine ac ?_
 refine aG ?_
 refine Qah Value.bool ?_
 rw [Qag, uJ, Qaj]
 first
   | (rw [Qaj]; constructor <;> (intro q; omega))
   | (constructor
      · intro q; first | omega | (cases q)
      intro q; omega)
theorem Bg g o x (b : bE (aQ W0 R) g o (dm x)) p : sQ W0 236 [.pointer (some ⟨g, o, none⟩), iQ p] R (.bool (x.thr p)) R := by
 refine am func236 ntmps236 ?_
 refine aa (aE (bE.weak b 5 _ rfl)) ?_
 refine cn (fun a => ?_) fun a => ?_
 refine ac ?_
 refine aG ?_
 refine Qah Value.bool ?_
 rw [Qag, tq]
 first
   | (simp; omega)
   | (simp only [QaZ, true_iff]; omega)
   | simp_all
 refine aa (aE (bE.weak b 6 _ rfl)) ?_
 refine ac ?_
 refine aG ?_
 refine Qah Value.bool ?_
 rw [Qag, tq]
 first
   | (simp; omega)
   | (simp only [QaZ, true_iff]; omega)
   | simp_all
theorem ER g o vs r (hr : i64 r) (hv : vs[o + 4]? = some (iQ r)) : sQ W0 468 [.pointer (some ⟨g, o, none⟩)] (pt g (ag vs 278) :: R) (.tuple #[]) (pt g (ag (vs.set (o + 4) (iQ (ig r))) 278) :: R) := by
 refine am func468 ntmps468 ?_
 refine aa (aE (aI hv)) ?_
 refine aa (zL rfl rfl (Kf hr : ru .i64 r 2 = ig r)) ?_
 refine ar (dt (by grind) (rfl : vs.set (o + 4) (iQ (if wB r then r - 2 else r)) = vs.set (o + 4) (iQ (ig r)))) ?_
 refine bU (.inr rfl) .nil ?_
 rw [show ig r = if wB r then r - 2 else r from rfl]
 exact ao
theorem a1a b L (z : L.length ≤ 1000) p : sQ W0 467 [pQ b, iQ p] (bJ b L :: R) (.bool (gL L p)) (bJ b L :: R) := by
 refine am func467 ntmps467 ?_
 refine ah (ap vf (uI b L)) ?_
 refine wu (b := b) fun a c => ?_
 refine aw ?_
 refine cW (fun i : Nat => i ≤ L.length ∧ ∀ j (f : j < L.length), j < i → L[j].thr p = false) (fun i => [(0, pQ b), (1, iQ p), (12, iQ (L.length : Nat)), (13, iQ i)]) (fun _ => pt b (ag [.slice a L.length c, .bool true] 276) :: osl 278 7 (.slice a L.length c) (L.flatMap dm) :: R) (fun i => L.length - i) 0 ?_ ?_
 grind
 intro i ⟨A, r⟩
 refine aw ?_
 refine aC rfl (fun s => ?_) fun s => ?_
 refine au 11 ?_
 have d : i < L.length := by omega
 refine mr (E := 278) (sz := 7) (a := a) (c := c) (n := L.length) dm L nF (by decide) rfl (fun t => ?_)
 obtain ⟨g, o, k, l⟩ := t.at_ d
 obtain ⟨x, h⟩ : ∃ x, L[i] = x := ⟨_, rfl⟩
 have e : x.thr p = true → gL L p = true := fun q => uH.2 ⟨x, by rw [← h]; exact QaF d, q⟩
 have u : x.thr p = false → ∀ j (f : j < L.length), j < i + 1 → L[j].thr p = false := fun q j f v => by
  rcases QaC j i with w | w
  grind
  grind
 rw [h] at l
 refine aw ?_
 refine aa (ek n0 rn rfl k rfl rfl d (by first | exact Qac _ | rfl)) ?_
 refine ah (aB GC (Bg g (o + i * 7) x l p)) ?_
 refine ai (fun m => ?_) fun m => ?_
 refine ac ?_
 rw [e m]
 exact ⟨_, ⟨rfl, rfl⟩, tt (b := b) rfl⟩
 refine aa bW ?_
 refine bR (i + 1) ?_
 grind
 refine aw ?_
 refine ac ?_
 have y : gL L p = false := by
  rw [← Qau, uH]
  rintro ⟨x, h, q⟩
  obtain ⟨j, f, rfl⟩ := QbO h
  rw [r j f (by omega)] at q; cases q
 rw [y]
 exact ⟨_, ⟨rfl, rfl⟩, tt (b := b) rfl⟩
theorem yp {S b off us ws vs} (h : bE S b off vs) (e : vs = us ++ ws) : bE S b off us := fun i v a => h i v (by grind)
structure PLn (W0 : World) (fn : FuncId) (cs : List Value) (C : HP) (p : Ln → Bool) : Prop where
  call : ∀ args w, (callFunc fn args).run Tryz.prog w = .ok (.enter fn args) w
  spec : ∀ x b R, bF Tryz.prog W0 fn ([] ++ [.pointer (some ⟨b, 0, none⟩)] ++ cs) (pt b (ag (dm x) 278) :: kH 0 C :: R) (fun v B => v = .bool (p x) ∧ B = pt b (ag (dm x) 278) :: kH 0 C :: R)
theorem a1b W0 bk (k : dp) : PLn W0 444 [pQ bk] (cq [pt bk (ag (gW k) 51)]) (fun x => decide (x.k = k)) := ⟨call444, fun x b R => by
 refine nj (ud (r1 := kH) (b1 := 0)) (pG ?_)
 simp only [Qax, Qaw]
 refine am func444 ntmps444 ?_
 refine bz [b, bk] 8 fun a => ?_
 refine aj 0 4 a ?_
 refine az 4 a (dj (yp (us := gW x.k) (ws := [iQ x.e.1, iQ x.e.2.1, iQ x.e.2.2, iQ x.rt, iQ x.lf]) (jR (k := 0) rfl) rfl)) ?_
 refine aj 5 1 a ?_
 refine az 6 a (sI Tryz.eqGuardType51 rfl rfl (sH Ce Tryz.stoodInHeld51 (lT rfl db rfl rfl (lS jj) (lT rfl db rfl rfl (lS jj) sG)))) ?_
 refine aj 7 1 a ?_
 refine aJ ?_
 refine ac ?_
 refine aG ?_
 refine Qah Value.bool ?_
 rw [Qag]; simp [Prod.ext_iff]
 ⟩
theorem a1c W0 bp page : PLn W0 235 [pQ bp] (cq [pt bp (ag [iQ page] 3)]) (fun x => x.thr page) := ⟨call235, fun x b R => by
 refine nj (ud (r1 := kH) (b1 := 0)) (pG ?_)
 simp only [Qax, Qaw]
 refine am func235 ntmps235 ?_
 refine ah (aB GC (Bg b 0 x en page)) ?_
 exact ac ao
 ⟩
def mP (page : Int) (x : Ln) : Bool := x.thr page || decide (x.e.1 = page)
theorem a1d W0 bp page : PLn W0 273 [pQ bp] (cq [pt bp (ag [iQ page] 3)]) (mP page) := ⟨call273, fun x b R => by
 refine nj (ud (r1 := kH) (b1 := 0)) (pG ?_)
 simp only [Qax, Qaw]
 obtain ⟨q, hq⟩ : ∃ q, x.thr page = q := ⟨_, rfl⟩
 rw [show mP page x = (q || decide (x.e.1 = page)) by rw [mP, hq]]
 refine am func273 ntmps273 ?_
 refine bz [b, bp] 14 fun a => ?_
 refine aj 0 2 a ?_
 refine bQ 2 (aB GC (Bg b 0 x en page)) ?_; clear a
 rintro _ d ⟨rfl, hB_⟩
 obtain rfl := hB_.symm
 rw [hq]
 refine ⟨aT, fun a => ?_⟩
 refine aj 3 1 a ?_
 refine mp (t := 7) rfl ?_ ?_
 intro c
 refine aj 4 10 a ?_
 refine aJ ?_
 refine ac ?_
 refine aG ?_
 refine Qah Value.bool ?_
 rw [Qag]
 simp_all
 intro c
 refine aj 4 10 a ?_
 refine aJ ?_
 refine ac ?_
 refine aG ?_
 refine Qah Value.bool ?_
 rw [Qag]
 simp_all
 ⟩
theorem a1e W0 : PLn W0 434 [] (cq []) (fun _ => true) := ⟨call434, fun x b R => by
 refine am func434 ntmps434 ?_
 exact ac ao
 ⟩
theorem Ky {α : Type} {p} {l : List α} {i x} hi (a : l[i] = x) (h : p x = true) : (l.take (i + 1)).filter p = (l.take i).filter p ++ [x] := by
 grind [Qao]
theorem Kz {α : Type} {p} {l : List α} {i x} hi (a : l[i] = x) (h : ¬ p x = true) : (l.take (i + 1)).filter p = (l.take i).filter p := by
 grind [Qao]
theorem KA {α : Type} {p} {l : List α} {i} : ((l.take i).filter p).length ≤ i :=
  Qba (QaL _ _) (by grind)
@[reducible] def uK (x : Ln) : List Value := gW x.k
theorem Bh b L (hl : L.length ≤ 1000) fn cs C p (hp : PLn W0 fn cs C p) : sP W0 234 [pQ b, .func (.func fn) #[] cs.toArray] (bJ b L :: kH 0 C :: R) (fun v B => ∃ a c, v = .slice a (L.filter p).length c ∧ B = osl 51 2 (.slice a (L.filter p).length c) ((L.filter p).flatMap uK) :: bJ b (L.filter fun x => !p x) :: kH 0 C :: R) := by
 obtain ⟨n, hn⟩ : ∃ n : Ln → Bool, (fun x => !p x) = n := ⟨_, rfl⟩
 have hnx : ∀ x, n x = !p x := fun x => by rw [← hn]
 rw [hn]
 refine am func234 ntmps234 ?_
 refine wu (b := b) fun a c => ?_
 refine aw ?_
 refine ge (fun X : Nat × (Option Addr × Nat) × Option Addr × Nat => X.1 ≤ L.length) (fun X => [(0, pQ b), (1, .func (.func fn) #[] cs.toArray), (5, .slice X.2.1.1 ((L.take X.1).filter p).length X.2.1.2), (6, .slice X.2.2.1 ((L.take X.1).filter n).length X.2.2.2), (13, iQ (L.length : Nat)), (14, iQ X.1)]) (fun X => osl 51 2 (.slice X.2.1.1 ((L.take X.1).filter p).length X.2.1.2) (((L.take X.1).filter p).flatMap uK) :: osl 278 7 (.slice X.2.2.1 ((L.take X.1).filter n).length X.2.2.2) (((L.take X.1).filter n).flatMap dm) :: pt b (ag [.slice a L.length c, .bool true] 276) :: osl 278 7 (.slice a L.length c) (L.flatMap dm) :: kH 0 C :: R) (fun X => L.length - X.1) (0, (none, 0), none, 0) ?_ ?_ ?_ ?_
 omega
 · repeat (first | exact bK | refine aZ rfl ?_)
 show Ent _ (osl 51 2 (.slice none 0 0) [] :: osl 278 7 (.slice none 0 0) [] :: pt b (ag [.slice a L.length c, .bool true] 276) :: osl 278 7 (.slice a L.length c) (L.flatMap dm) :: kH 0 C :: R)
 exact fm (k := fm)
 intro ⟨i, ⟨a1, c1⟩, a2, c2⟩ hi
 dsimp only at hi ⊢
 have hlp := KA (p := p) (l := L) (i := i)
 have hln := KA (p := n) (l := L) (i := i)
 refine aw ?_
 refine aC rfl (fun c4 => ?_) fun c4 => ?_
 refine au 2 ?_
 refine cy (fun X : (Option Addr × Nat) × Option Addr × Nat => True) (fun X => [(0, pQ b), (1, .func (.func fn) #[] cs.toArray), (5, .slice X.1.1 ((L.take (i + 1)).filter p).length X.1.2), (6, .slice X.2.1 ((L.take (i + 1)).filter n).length X.2.2), (13, iQ (L.length : Nat)), (14, iQ i)]) (fun X => osl 51 2 (.slice X.1.1 ((L.take (i + 1)).filter p).length X.1.2) (((L.take (i + 1)).filter p).flatMap uK) :: osl 278 7 (.slice X.2.1 ((L.take (i + 1)).filter n).length X.2.2) (((L.take (i + 1)).filter n).flatMap dm) :: pt b (ag [.slice a L.length c, .bool true] 276) :: osl 278 7 (.slice a L.length c) (L.flatMap dm) :: kH 0 C :: R) ?_ ?_
 refine au 8 ?_
 have hi1 : i < L.length := by omega
 refine mr (E := 278) (sz := 7) (a := a) (c := c) (n := L.length) dm L nF (by decide) rfl (fun hs => ?_)
 obtain ⟨g, o, hga, hc⟩ := hs.at_ hi1
 obtain ⟨x, hx⟩ : ∃ x, L[i] = x := ⟨_, rfl⟩
 rw [hx] at hc
 refine aw ?_
 refine aa (ek n0 rn rfl hga rfl rfl hi1 (by first | exact Qac _ | rfl)) ?_
 refine aa (dj hc.weak) ?_
 refine bu fun bx => ?_
 refine ar aA ?_
 refine ah (OQ (us := []) (cs := cs) rfl hp.call rfl (hp.spec x bx _)) ?_
 refine ai (fun c7 => ?_) fun c7 => ?_
 have e1 := Ky (p := p) hi1 hx c7
 have e2 := Kz (p := n) hi1 hx (by grind)
 refine aa (rC C6 rp rfl TakeL.eq rfl) ?_
 refine dw (iA G8 rp a7O rfl (fp rfl rfl hJ) rfl (by decide) (by decide) (by decide)) fun bb => ?_
 rw [show ([gW x.k] : List (List Value)).flatten = gW x.k from Qav _]
 refine aF rfl (eE (sz := 2) (by_ := 16) (info := Tryz.t51) G8 (by kernel_rfl) rfl rfl rfl rfl (by decide) rfl rfl en rfl rfl (by simp only [maxLen]; omega) (by omega)) ?_
 rintro _ _ ⟨a3, c3, rfl, rfl⟩
 refine aw ?_
 refine df ((a3, c3), a2, c2) ?_ ?_ ?_
 trivial
 · rw [e1, e2, Qae]
   repeat (first | exact bK | refine aZ rfl ?_)
 dsimp only
 rw [e1, e2, Qae, QbV, Qbt, List.flatMap_singleton]
 exact IO
 have e1 := Kz (p := p) hi1 hx c7
 have e2 := Ky (p := n) hi1 hx (by grind)
 refine dw (iA n0 rn Ch rfl (fp rfl rfl hJ) rfl (by decide) (by decide) (by decide)) fun bb => ?_
 rw [show ([dm x] : List (List Value)).flatten = dm x from Qav _]
 refine aF rfl (eE (sz := 7) (by_ := 56) (info := Tryz.t278) n0 (by kernel_rfl) rfl rfl rfl rfl (by decide) rfl rfl en rfl (by grind [Ki]) (by simp only [maxLen]; omega) (by omega)) ?_
 rintro _ _ ⟨a3, c3, rfl, rfl⟩
 refine aw ?_
 refine df ((a1, c1), a3, c3) ?_ ?_ ?_
 trivial
 · rw [e1, e2, Qae]
   repeat (first | exact bK | refine aZ rfl ?_)
 dsimp only
 rw [e1, e2, Qae, QbV, Qbt, List.flatMap_singleton]
 exact IO
 intro ⟨⟨a4, c4⟩, a5, c5⟩ _
 refine aw ?_
 refine aa bW ?_
 exact bR (i + 1, (a4, c4), a5, c5) (by omega)
 refine aw ?_
 refine ar dX ?_
 refine ac ?_
 obtain rfl : i = L.length := by omega
 rw [Qby]
 exact ⟨_, ⟨a1, c1, rfl, rfl⟩, Ent.trans (B := osl 51 2 (.slice a1 (L.filter p).length c1) ((L.filter p).flatMap uK) :: pt b (ag [.slice a2 (L.filter n).length c2, .bool true] 276) :: osl 278 7 (.slice a2 (L.filter n).length c2) ((L.filter n).flatMap dm) :: kH 0 C :: R) inferInstance (Ent.cons (tt (b := b) rfl))⟩
theorem a1f a n c : sP W0 154 [.slice a n c] R (fun v B => ∃ b, v = .func (.func 239) #[] #[pQ b] ∧ B = pt b (ag [.slice a n c] 279) :: R) := by
 refine am func154 ntmps154 ?_
 refine dw (jO rfl rfl) fun d => ?_
 refine ac ?_
 exact ⟨_, ⟨d, rfl, rfl⟩, IO⟩
theorem a1g W0 bs L c a (b : List It) (p : b.length < 1000) (C : Nat → List HP) (j : ∀ i R, i < b.length → qp Tryz.prog W0 L [.agg (bO (b.getD i default)).toArray] (C i ++ R) (fun v B => v = .bool true ∧ B = C (i + 1) ++ R)) : sQ W0 239 [.func (.yield L) #[] #[], pQ bs] (pt bs (ag [.slice a b.length c] 279) :: osl 282 6 (.slice a b.length c) (b.flatMap bO) :: C 0) (.tuple #[]) (pt bs (ag [.slice a b.length c] 279) :: osl 282 6 (.slice a b.length c) (b.flatMap bO) :: C b.length) := by
 refine am func239 ntmps239 ?_
 refine cW (fun i : Nat => i ≤ b.length) (fun i => [(0, .func (.yield L) #[] #[]), (5, .slice a b.length c), (6, iQ (b.length : Nat)), (7, iQ i)]) (fun i => pt bs (ag [.slice a b.length c] 279) :: osl 282 6 (.slice a b.length c) (b.flatMap bO) :: C i) (fun i => b.length - i) 0 ?_ ?_
 omega
 intro i q
 refine aw ?_
 refine ai (fun k => ?_) fun k => ?_
 have d : i < b.length := by omega
 refine mr (E := 282) (sz := 6) (a := a) (n := b.length) (c := c) bO b iZ (by decide) rfl (fun l => ?_)
 obtain ⟨g, o, rfl, m⟩ := l.at_ d
 have e : b.getD i default = b[i] := by grind
 refine aw ?_
 refine aa (bM d) ?_
 refine aa (dj m) ?_
 refine bu fun r => ?_
 refine fh (gi fg rfl rfl rfl rfl rfl) ?_
 rintro _ _ rfl
 refine aL (aH (aO (aY (ae rfl (aM rfl) (ae rfl (pE mY fg rfl rfl) ?_)))))
 refine D5 rfl rfl rfl (D9 (QaY (l₁ := [_, _, _])) (e ▸ j i [_, _, _] d)) ?_
 rintro _ s ⟨rfl, f⟩
 obtain rfl := f.symm
 refine qf QaY ?_
 simp only [Qax, Qaw]
 refine aw ?_
 refine ai (fun h => ?_) fun h => ?_
 exact absurd rfl h
 refine aa bW ?_
 exact bR (i + 1) (by omega)
 refine bU (.inr rfl) .nil ?_
 obtain rfl : i = b.length := by omega
 exact ao
theorem a1h {W0 A e n' L D bs c a ps asg body} {g d : List HP → Prop} (b : List It) (j : b.length < 1000) (C : Nat → List HP)
    (k : A.Perm (pt bs (ag [.slice a b.length c] 279) :: osl 282 6 (.slice a b.length c) (b.flatMap bO) :: C 0))
    (f : g (pt bs (ag [.slice a b.length c] 279) :: osl 282 6 (.slice a b.length c) (b.flatMap bO) :: C b.length))
    (l : ∀ i R, i < b.length → qp Tryz.prog W0 L [.agg (bO (b.getD i default)).toArray] (dH L ⟨e, n', ps, asg, body, .ready, none, D⟩ :: pt D (.deferred (some [])) :: (C i ++ R))
      (fun v B => v = .bool true ∧ B = dH L ⟨e, n', ps, asg, body, .ready, none, D⟩ :: pt D (.deferred (some [])) :: (C (i + 1) ++ R))) :
    bF Tryz.prog W0 239 (.func (.yield L) #[] #[] :: [pQ bs]) (dH L ⟨e, n', ps, asg, body, .ready, none, D⟩ :: pt D (.deferred (some [])) :: A)
      (fun _ B => (∃ C, B = dH L ⟨e, n', ps, asg, body, .ready, none, D⟩ :: pt D (.deferred (some [])) :: C ∧ g C) ∨ (∃ C, B = dH L ⟨e, n', ps, asg, body, .done, some .ret, D⟩ :: pt D (.deferred (some [])) :: C ∧ d C)) := by
 have h : ∀ (x y p q : HP) (Z : List HP), (x :: y :: p :: q :: Z).Perm (p :: q :: x :: y :: Z) := fun x y p q Z =>
  (((List.Perm.swap _ _ _).trans ((List.Perm.swap _ _ _).cons _)).cons _).trans ((List.Perm.swap _ _ _).trans ((List.Perm.swap _ _ _).cons _))
 refine nj (((k.cons _).cons _).trans (h _ _ _ _ _)) (gQ (a1g W0 bs L c a b j (fun i => dH L ⟨e, n', ps, asg, body, .ready, none, D⟩ :: pt D (.deferred (some [])) :: C i) (fun i R m => l i R m)) ?_)
 rintro v B ⟨_, rfl⟩
 exact ⟨_, .inl ⟨_, rfl, f⟩, Ent.ofPerm (h _ _ _ _ _)⟩
def uL (b : Nat) (l : List It) : HP := chk (fun C => ∃ a c, C = [pt b (ag [.slice a l.length c] 279), osl 282 6 (.slice a l.length c) (l.flatMap bO)])
section
variable {W0 : World} {N : FSz} {K : Act → World → Prop} {e : bi} {A R R1 R2 : List HP} {b n c : Nat} {l : List It} {a : Option Addr} {ys : List Value}
theorem KB [f : Tk uL b A l R] (h : ∀ a c, av W0 N K e (pt b (ag [.slice a l.length c] 279) :: osl 282 6 (.slice a l.length c) (l.flatMap bO) :: R)) : av W0 N K e A :=
  fV (r := uL) (b := b) (ni fun C d => by obtain ⟨a, c, rfl⟩ := d; exact h a c)
theorem a1i l [d : Tk pt b A (ag [.slice a n c] 279) R1] [f : Tk (osl 282 6) (.slice a n c) R1 ys R] (g : n = l.length) (h : ys = l.flatMap bO) (k : av W0 N K e (uL b l :: R)) : av W0 N K e A := by
 subst g; subst h
 exact eK ((Ent.ofPerm (d.perm.trans (f.perm.cons _))).trans (fK (R := R) (C := [_, _]) ⟨a, c, rfl⟩)) k
theorem a1j [a : Tk pt b A (ag [.slice none 0 0] 279) R] (k : av W0 N K e (uL b [] :: R)) : av W0 N K e A :=
  eK ((Ent.ofPerm a.perm).trans ((Ent.cons (fm (E := 282) (sz := 6) (B := R))).trans (fK (R := R) (C := [pt b (ag [.slice none 0 0] 279), osl 282 6 (.slice none 0 0) []]) ⟨none, 0, rfl⟩))) k
end
theorem a1k bs c a (d : List It) (n : d.length < 900) : sP W0 318 [.slice none 0 0, .func (.func 239) #[] #[pQ bs]] (pt bs (ag [.slice a d.length c] 279) :: osl 282 6 (.slice a d.length c) (d.flatMap bO) :: R) (fun v B => ∃ f g, v = .slice f d.length g ∧ B = osl 282 6 (.slice f d.length g) (d.flatMap bO) :: osl 282 6 (.slice a d.length c) (d.flatMap bO) :: R) := by
 refine am func318 ntmps318 ?_
 refine eH (jO rfl rfl) fun e => ?_
 refine au 5 ?_
 refine a1j (b := e) ?_
 refine au 5 ?_
 refine D6 (fun C => C = pt bs (ag [.slice a d.length c] 279) :: osl 282 6 (.slice a d.length c) (d.flatMap bO) :: uL e d :: R) (fun C => False) rfl call239 ?_ ?_ ?_
 intro L D
 refine a1h d (by omega) (fun i => uL e (d.take i) :: R) (by rw [List.take_zero]; exact sV (r1 := pt) (b1 := bs) (r2 := osl 282 6) (b2 := .slice a d.length c) (r3 := uL) (b3 := e)) (by grind) ?_
 intro i o p
 simp only [Qax, Qaw]
 have k : d.take (i + 1) = d.take i ++ [d.getD i default] := by simp_all
 have l : (d.take i).length = i := by grind
 refine A2 rfl rfl ?_
 refine aY (aF rfl (di sr) ?_)
 rintro _ _ ⟨q, rfl, rfl⟩
 refine iB 1 aA ?_
 refine A0 rfl ?_
 refine au 1 ?_
 refine KB (b := e) fun h j => ?_
 refine aY (ae rfl (co FV rfl (aI rfl)) ?_)
 refine ae rfl (pE mY fg rfl rfl) ?_
 refine aF rfl (iA jL fg sr rfl (fp rfl rfl hJ) rfl (by decide) (by decide) (by decide)) ?_
 rintro _ _ ⟨r, rfl, rfl⟩
 refine aF rfl (eE (sz := 6) (by_ := 48) (info := Tryz.t282) jL (by kernel_rfl) rfl rfl rfl rfl (by decide) rfl rfl en rfl rfl (by simp only [maxLen]; omega) (by omega)) ?_
 rintro _ _ ⟨s, t, rfl, rfl⟩
 refine iB 2 dX ?_
 refine a1i (b := e) (d.take (i + 1)) (by grind) (by grind) ?_
 refine A1 ?_
 exact ao
 intro D C m
 subst m
 refine au 3 ?_
 refine KB (b := e) fun h j => ?_
 refine aY (ae rfl (co FV rfl (aI rfl)) ?_)
 refine ae rfl (bC rfl) (aL (aH (dE (vw (.inl rfl) (.cons (aR rfl) .nil) ?_))))
 exact ⟨_, ⟨h, j, rfl, rfl⟩, IO⟩
 grind
theorem a1l bs c a (b : List It) (g : b.length < 900) : sP W0 237 [.func (.func 239) #[] #[pQ bs]] (pt bs (ag [.slice a b.length c] 279) :: osl 282 6 (.slice a b.length c) (b.flatMap bO) :: R) (fun v B => ∃ e f, v = .slice e b.length f ∧ B = osl 282 6 (.slice e b.length f) (b.flatMap bO) :: osl 282 6 (.slice a b.length c) (b.flatMap bO) :: R) := by
 refine am func237 ntmps237 ?_
 refine aF rfl (cv call318 (a1k bs c a b g)) ?_
 rintro _ j ⟨h, i, rfl, d⟩
 obtain rfl := d.symm
 refine aw ?_
 refine ac ?_
 exact ⟨_, ⟨h, i, rfl, rfl⟩, IO⟩
theorem KC x : sQ W0 240 [iQ x] R (.bool false) R := by
 refine am func240 ntmps240 ?_
 refine ac ?_
 refine aG ?_
 simp [aK]
def uM (x y : Int) : Int := if x < y then -1 else if x > y then 1 else 0
theorem a1m x y : sQ W0 156 [iQ x, iQ y] R (iQ (uM x y)) R := by
 refine am func156 ntmps156 ?_
 refine ah (aB call240 (KC x)) ?_
 refine ah (aB call240 (KC y)) ?_
 refine ai (fun a => ?_) fun a => ?_
 refine ac ?_
 refine aG ?_
 rw [uM, Qad a] <;> rfl
 refine ai (fun b => ?_) fun b => ?_
 refine ac ?_
 refine aG ?_
 rw [uM, Qaa a, Qad (by omega)] <;> rfl
 refine ac ?_
 refine aG ?_
 rw [uM, Qaa a, Qaa (by omega)] <;> rfl
theorem KD x y : sQ W0 155 [.agg (bO x).toArray, .agg (bO y).toArray] R (iQ (uM x.u y.u)) R := by
 refine am func155 ntmps155 ?_
 refine bB fun b => ?_
 refine eH (kg rfl) fun c => ?_
 refine ae rfl (bC rfl) (aL (aH (aO (aY ?_))))
 refine ae rfl (d5 rfl tT rfl aS rfl (by first | exact Qac _ | rfl)) ?_
 refine ae rfl (co db rfl (aI rfl)) ?_
 refine ae rfl (d5 rfl tT rfl aS rfl (by first | exact Qac _ | rfl)) ?_
 refine ae rfl (co db rfl (aI rfl)) ?_
 refine aF rfl (iz call156 rfl (a1m x.u y.u)) ?_
 rintro _ d ⟨rfl, a⟩
 obtain rfl := a.symm
 refine ae rfl (bC rfl) (aL (aH (dE ?_)))
 exact ac ao
theorem ww x y : uM x y < 0 ↔ x < y := by
 unfold uM
 split
 omega
 split <;> omega
def Bi (l : List It) (j i : Nat) : Prop := ∀ p q, p < q → q ≤ i → q ≠ j → us l p ≤ us l q
theorem a1n {l j i} (h : Bi l j i) (o : 0 < j) (k : j ≤ i) (r : i < l.length) (m : us l j < us l (j - 1)) : Bi (swapL l j (j - 1)) (j - 1) i := by
 have f := kP (l := l) (i := j) (j := j - 1) (by omega) (by omega)
 intro p q c d e
 rw [f, f]
 have n : ¬ j - 1 = j := by omega
 by_cases a : q = j
 subst a
 rw [Qad (rfl : q = q)]
 by_cases b : p = q - 1
 omega
 rw [Qaa (by omega), Qaa b]; exact h p (q - 1) (by omega) (by omega) (by omega)
 rw [Qaa a, Qaa e]
 by_cases b : p = j
 rw [Qad b]; exact h (j - 1) q (by omega) d a
 rw [Qaa b]
 by_cases g : p = j - 1
 rw [Qad g]; exact h j q (by omega) d a
 rw [Qaa g]; exact h p q c d a
theorem a1o {l j i} (h : Bi l j i) (b : j = 0 ∨ us l (j - 1) ≤ us l j) : ∀ p q, p < q → q ≤ i → us l p ≤ us l q := fun p q a c => by
 by_cases e : q = j
 subst e
 rcases b with d | f
 omega
 by_cases g : p = q - 1
 grind
 have := h p (q - 1) (by omega) (by omega) (by omega); omega
 exact h p q a c e
theorem a1p g c its sp (F : its.length < 900) (G : 0 < its.length) : sP W0 359 [.slice (some ⟨g, 0, none⟩) its.length c, .int .i64 0, .int .i64 its.length, .func (.func 155) #[] #[]] (pt g (ag (its.flatMap bO ++ sp) 282) :: R) (fun v B => ∃ l, v = .tuple #[] ∧ B = pt g (ag (l.flatMap bO ++ sp) 282) :: R ∧ l.Perm its ∧ ∀ p q, p < q → q < its.length → us l p ≤ us l q) := by
 refine jz 3 func359 ntmps359 ?_
 refine jS 4 (dh rfl rfl (cj (by omega))) ?_
 refine cW (fun X : List It × Nat => X.1.Perm its ∧ 0 < X.2 ∧ X.2 ≤ its.length ∧ ∀ p q, p < q → q < X.2 → us X.1 p ≤ us X.1 q) (fun X => [(0, .slice (some ⟨g, 0, none⟩) its.length c), (1, .int .i64 0), (2, .int .i64 (its.length : Nat)), (3, .func (.func 155) #[] #[]), (8, .int .i64 X.2)]) (fun X => pt g (ag (X.1.flatMap bO ++ sp) 282) :: R) (fun X => its.length - X.2) (its, 1) ?_ ?_
 grind
 intro ⟨l, i⟩ ⟨r, s, C, a⟩
 dsimp only at r s C a ⊢
 refine au 8 ?_
 refine aC rfl (fun D => ?_) fun D => ?_
 refine au 11 ?_
 refine cW (fun X : List It × Nat => X.1.Perm its ∧ X.2 ≤ i ∧ Bi X.1 X.2 i) (fun X => [(0, .slice (some ⟨g, 0, none⟩) its.length c), (1, .int .i64 0), (2, .int .i64 (its.length : Nat)), (3, .func (.func 155) #[] #[]), (8, .int .i64 i), (9, .int .i64 X.2)]) (fun X => pt g (ag (X.1.flatMap bO ++ sp) 282) :: R) (fun X => X.2) (l, i) ?_ ?_
 exact ⟨r, Qam _, fun p q u z H => a p q u (by omega)⟩
 intro ⟨d, j⟩ ⟨k, A, m⟩
 dsimp only at k A m ⊢
 have E := k.length_eq
 refine aO ?_
 refine cy (fun _ : Unit => True) (fun _ => [(0, .slice (some ⟨g, 0, none⟩) its.length c), (1, .int .i64 0), (2, .int .i64 (its.length : Nat)), (3, .func (.func 155) #[] #[]), (8, .int .i64 i), (9, .int .i64 j), (34, .bool (decide (0 < j ∧ us d j < us d (j - 1))))]) (fun _ => pt g (ag (d.flatMap bO ++ sp) 282) :: R) ?_ ?_
 skip
 refine fj [(g, 0, _)] 17 mixed rfl (bL aW) (fun a => ?_)
 refine aj 0 4 a ?_
 refine mp (t := 21) rfl ?_ ?_
 intro w
 have n : 0 < j := by omega
 have f : j < d.length := by omega
 have x : (j : Int) - 1 = ((j - 1 : Nat) : Int) := by omega
 refine aj 4 3 a ?_
 refine dr 7 rfl rfl rfl a (jQ jL fg rfl rfl rfl (by omega) (by first | exact Qac _ | rfl)) ?_
 refine aj 9 2 a ?_
 refine dr 11 rfl rfl rfl a (l8 rfl rfl (by rw [cj (by omega)]; omega : IntKind.wrap .i64 ((j : Int) - 1) = ((j - 1 : Nat) : Int))) ?_
 refine dr 12 rfl rfl rfl a (jQ jL fg rfl rfl rfl (by omega) (by first | exact Qac _ | rfl)) ?_
 refine eD (is := [8, 13]) (by kernel_rfl) rfl ⟨?_, ?_, trivial⟩
 skip
 refine nU rfl rfl (dP (iS mY fg rfl (cQ (lJ d sp j f) rfl) rfl)) rfl ?_; clear a
 rintro _ _ ⟨rfl, rfl⟩
 refine ⟨(bL aW), fun a => ?_⟩
 refine fD 13 rfl rfl (dP (iS mY fg rfl (cQ (lJ d sp (j - 1) (by omega)) rfl) rfl)) (bL aW) fun a => ?_
 refine fD 14 rfl rfl (jm rfl call155 rfl (KD (d.getD j default) (d.getD (j - 1) default))) (bL aW) fun a => ?_
 refine aj 15 2 a ?_
 refine hQ ?_
 refine aH ?_
 refine df () ?_ ?_ ?_
 trivial
 · repeat (first | exact bK | refine aZ rfl ?_ | refine aZ (Qah (fun b => some (Value.bool b)) (QaA.2 ⟨fun h => ⟨by omega, (ww _ _).1 h⟩, fun h => (ww _ _).2 h.2⟩)) ?_ | refine aZ (Qah (fun b => some (Value.bool b)) (Qal (fun h => absurd h.1 (by omega))).symm) ?_)
 exact IO
 skip
 refine nU rfl rfl (dP (iS mY fg rfl (cQ (lJ d sp (j - 1) (by omega)) rfl) rfl)) rfl ?_; clear a
 rintro _ _ ⟨rfl, rfl⟩
 refine ⟨(bL aW), fun a => ?_⟩
 refine fD 8 rfl rfl (dP (iS mY fg rfl (cQ (lJ d sp j f) rfl) rfl)) (bL aW) fun a => ?_
 refine fD 14 rfl rfl (jm rfl call155 rfl (KD (d.getD j default) (d.getD (j - 1) default))) (bL aW) fun a => ?_
 refine aj 15 2 a ?_
 refine hQ ?_
 refine aH ?_
 refine df () ?_ ?_ ?_
 trivial
 · repeat (first | exact bK | refine aZ rfl ?_ | refine aZ (Qah (fun b => some (Value.bool b)) (QaA.2 ⟨fun h => ⟨by omega, (ww _ _).1 h⟩, fun h => (ww _ _).2 h.2⟩)) ?_ | refine aZ (Qah (fun b => some (Value.bool b)) (Qal (fun h => absurd h.1 (by omega))).symm) ?_)
 exact IO
 intro w
 refine aj 4 13 a ?_
 refine hQ ?_
 refine aH ?_
 refine df () ?_ ?_ ?_
 trivial
 · repeat (first | exact bK | refine aZ rfl ?_ | refine aZ (Qah (fun b => some (Value.bool b)) (QaA.2 ⟨fun h => ⟨by omega, (ww _ _).1 h⟩, fun h => (ww _ _).2 h.2⟩)) ?_ | refine aZ (Qah (fun b => some (Value.bool b)) (Qal (fun h => absurd h.1 (by omega))).symm) ?_)
 exact IO
 intro _ _
 refine aC rfl (fun o => ?_) fun o => ?_
 obtain ⟨n, o⟩ := o
 have f : j < d.length := by omega
 have x : (j : Int) - 1 = ((j - 1 : Nat) : Int) := by omega
 refine au 2 ?_
 refine cy (fun _ : Unit => True) (fun _ => [(0, .slice (some ⟨g, 0, none⟩) its.length c), (1, .int .i64 0), (2, .int .i64 (its.length : Nat)), (3, .func (.func 155) #[] #[]), (8, .int .i64 i), (9, .int .i64 j)]) (fun _ => pt g (ag ((swapL d j (j - 1)).flatMap bO ++ sp) 282) :: R) ?_ ?_
 skip
 refine mm ?_
 refine fj [] 18 mixed rfl aW (fun a => ?_)
 refine aj 0 4 a ?_
 refine dr 4 rfl rfl rfl a (l8 rfl rfl (by rw [cj (by omega)]; omega : IntKind.wrap .i64 ((j : Int) - 1) = ((j - 1 : Nat) : Int))) ?_
 refine aj 5 2 a ?_
 refine dr 7 rfl rfl rfl a (l8 rfl rfl (by rw [cj (by omega)]; omega : IntKind.wrap .i64 ((j : Int) - 1) = ((j - 1 : Nat) : Int))) ?_
 refine dr 8 rfl rfl rfl a (jQ jL fg rfl rfl rfl (by omega) (by first | exact Qac _ | rfl)) ?_
 refine aj 10 2 a ?_
 refine dr 12 rfl rfl rfl a (jQ jL fg rfl rfl rfl (by omega) (by first | exact Qac _ | rfl)) ?_
 refine eD (is := [9, 13]) (by kernel_rfl) rfl ⟨?_, ?_, trivial⟩
 skip
 refine nU rfl rfl (dP (iS mY fg rfl (cQ (lJ d sp (j - 1) (by omega)) rfl) rfl)) rfl ?_; clear a
 rintro _ _ ⟨rfl, rfl⟩
 refine ⟨aW, fun a => ?_⟩
 refine fD 13 rfl rfl (dP (iS mY fg rfl (cQ (lJ d sp j f) rfl) rfl)) aW fun a => ?_
 refine dr 14 rfl rfl rfl a (jQ jL fg rfl rfl rfl (by omega) (by first | exact Qac _ | rfl)) ?_
 refine iC 15 rfl rfl (vp fg rfl rfl rfl rfl (pR d sp j f) (qQ d sp j (d.getD (j - 1) default) f)) aW fun a => ?_
 refine dr 16 rfl rfl rfl a (jQ jL fg rfl rfl rfl (by omega) (by first | exact Qac _ | rfl)) ?_
 refine iC 17 rfl rfl (vp fg rfl rfl rfl rfl (pR (d.set j (d.getD (j - 1) default)) sp (j - 1) (by rw [Qap]; omega)) (qQ (d.set j (d.getD (j - 1) default)) sp (j - 1) (d.getD j default) (by rw [Qap]; omega))) aW fun a => ?_
 refine hQ ?_
 refine au 2 ?_
 refine bq () ?_ (he := ?_)
 trivial
 show Ent _ (pt g (ag ((swapL d j (j - 1)).flatMap bO ++ sp) 282) :: R)
 unfold swapL
 exact IO
 skip
 refine nU rfl rfl (dP (iS mY fg rfl (cQ (lJ d sp j f) rfl) rfl)) rfl ?_; clear a
 rintro _ _ ⟨rfl, rfl⟩
 refine ⟨aW, fun a => ?_⟩
 refine fD 9 rfl rfl (dP (iS mY fg rfl (cQ (lJ d sp (j - 1) (by omega)) rfl) rfl)) aW fun a => ?_
 refine dr 14 rfl rfl rfl a (jQ jL fg rfl rfl rfl (by omega) (by first | exact Qac _ | rfl)) ?_
 refine iC 15 rfl rfl (vp fg rfl rfl rfl rfl (pR d sp j f) (qQ d sp j (d.getD (j - 1) default) f)) aW fun a => ?_
 refine dr 16 rfl rfl rfl a (jQ jL fg rfl rfl rfl (by omega) (by first | exact Qac _ | rfl)) ?_
 refine iC 17 rfl rfl (vp fg rfl rfl rfl rfl (pR (d.set j (d.getD (j - 1) default)) sp (j - 1) (by rw [Qap]; omega)) (qQ (d.set j (d.getD (j - 1) default)) sp (j - 1) (d.getD j default) (by rw [Qap]; omega))) aW fun a => ?_
 refine hQ ?_
 refine au 2 ?_
 refine bq () ?_ (he := ?_)
 trivial
 show Ent _ (pt g (ag ((swapL d j (j - 1)).flatMap bO ++ sp) 282) :: R)
 unfold swapL
 exact IO
 intro _ _
 refine au 2 ?_
 refine jS 3 (l8 rfl rfl (by rw [cj (by omega)]; omega : IntKind.wrap .i64 ((j : Int) - 1) = ((j - 1 : Nat) : Int))) ?_
 refine bR (swapL d j (j - 1), j - 1) ?_ (hμ := ?_)
 exact ⟨(lI f (by omega)).trans k, by show j - 1 ≤ i; omega, a1n m n A (by omega) o⟩
 show j - 1 < j; omega
 refine au 6 ?_
 have y : ∀ p q, p < q → q ≤ i → us d p ≤ us d q := a1o m (by
   by_cases q : 0 < j
   · exact .inr (Int.not_lt.1 fun e => o ⟨q, e⟩)
   left; omega)
 refine au 2 ?_
 refine jS 3 (dh rfl rfl (by rw [cj (by omega)]; omega : IntKind.wrap .i64 ((i : Int) + 1) = ((i + 1 : Nat) : Int))) ?_
 refine bR (d, i + 1) ?_ (hμ := ?_)
 exact ⟨k, Nat.succ_pos _, by show i + 1 ≤ its.length; omega, fun p q u z => y p q u (by dsimp only at z; omega)⟩
 show its.length - (i + 1) < its.length - i; omega
 refine au 4 ?_
 refine bU (.inr rfl) .nil ?_
 obtain rfl : i = its.length := by omega
 exact ⟨_, ⟨l, rfl, rfl, r, a⟩, IO⟩
theorem a1q (x : Nat) (f : x < 60000) : sP W0 368 [.int .u64 x] R (fun v B => ∃ r : Nat, v = iQ r ∧ B = R) := by
 refine am func368 ntmps368 ?_
 refine aC rfl (fun b => ?_) fun b => ?_
 omega
 refine aw ?_
 refine aC rfl (fun c => ?_) fun c => ?_
 omega
 refine au 2 ?_
 refine cy (fun z : Nat × Nat => z.1 < 256 ∧ z.2 ≤ 8) (fun z => [(0, .int .u64 z.1), (2, iQ z.2)]) (fun _ => R) ?_ ?_
 refine au 6 ?_
 refine ai (fun d => ?_) fun d => ?_
 refine aa (j5 rfl rfl (by decide) (jU (s := 8) (by decide))) ?_
 refine aa bW ?_
 exact bq (x / 2 ^ 8, 8) (by omega)
 exact bq (x, 0) (by omega)
 intro ⟨y, n⟩ ⟨a, e⟩
 dsimp only at a e ⊢
 refine aw ?_
 refine ae rfl (bG (CX (by omega))) ?_
 refine XR (j := y) rfl underlying9 rfl rfl rfl (by show y < 256; exact a) fun m g => ?_
 refine aa (bG (cj (by omega))) ?_
 refine aa (dQ (n + m)) ?_
 refine ac ?_
 exact ⟨_, ⟨n + m, rfl, rfl⟩, IO⟩
theorem ES (x : Nat) (b : x < 60000) : sP W0 320 [.int .u64 x] R (fun v B => ∃ r : Nat, v = iQ r ∧ B = R) := by
 refine jz 6 func320 ntmps320 ?_
 refine XP ?_
 refine aw ?_
 refine aF rfl (aB call368 (a1q x b)) ?_
 rintro _ c ⟨r, rfl, a⟩
 obtain rfl := a.symm
 refine aw ?_
 refine ac ?_
 exact ⟨_, ⟨r, rfl, rfl⟩, IO⟩
theorem a1r g c its sp k (h : its.length ≤ 12) (b : 0 < its.length) : sP W0 319 [.slice (some ⟨g, 0, none⟩) its.length c, iQ 0, iQ its.length, iQ k, .func (.func 155) #[] #[]] (pt g (ag (its.flatMap bO ++ sp) 282) :: R) (fun v B => ∃ l, v = .tuple #[] ∧ B = pt g (ag (l.flatMap bO ++ sp) 282) :: R ∧ l.Perm its ∧ ∀ p q, p < q → q < its.length → us l p ≤ us l q) := by
 refine am func319 ntmps319 ?_
 refine cW (fun _ : Unit => True) (fun _ => [(0, .slice (some ⟨g, 0, none⟩) its.length c), (1, iQ 0), (2, iQ (its.length : Nat)), (3, iQ k), (4, .func (.func 155) #[] #[])]) (fun _ => pt g (ag (its.flatMap bO ++ sp) 282) :: R) (fun _ => 0) () ?_ ?_
 trivial
 intro u i
 refine aw ?_
 refine aa (nV its.length) ?_
 refine aC rfl (fun d => ?_) fun d => ?_
 refine au 6 ?_
 refine aF rfl (ap call359 (a1p g c its sp (by omega) b)) ?_
 rintro _ j ⟨l, rfl, a, e, f⟩
 obtain rfl := a.symm
 refine aw ?_
 refine bU (.inl rfl) .nil ?_
 exact ⟨_, ⟨l, rfl, rfl, e, f⟩, IO⟩
 omega
theorem KF a c k : sQ W0 319 [.slice a 0 c, iQ 0, iQ 0, iQ k, .func (.func 155) #[] #[]] R (.tuple #[]) R := by
 have b : bF Tryz.prog W0 359 [.slice a 0 c, iQ 0, iQ 0, .func (.func 155) #[] #[]] R (fun v B => v = .tuple #[] ∧ B = R) := by
  refine am func359 ntmps359 ?_
  refine aa bW ?_
  refine cW (fun _ : Unit => True) (fun _ => [(2, iQ 0), (8, iQ 1)]) (fun _ => R) (fun _ => 0) () ?_ ?_
  trivial
  intro u d
  refine aw ?_
  refine aC rfl (fun e => ?_) fun e => ?_
  omega
  refine aw ?_
  refine bU (.inr rfl) .nil ?_
  exact ao
 refine am func319 ntmps319 ?_
 refine cW (fun _ : Unit => True) (fun _ => [(0, .slice a 0 c), (1, iQ 0), (2, iQ 0), (3, iQ k), (4, .func (.func 155) #[] #[])]) (fun _ => R) (fun _ => 0) () ?_ ?_
 trivial
 intro u d
 refine aw ?_
 refine aa gz ?_
 refine aC rfl (fun f => ?_) fun f => ?_
 refine au 6 ?_
 refine ah (aB call359 (b)) ?_
 refine bU (.inl rfl) .nil ?_
 exact ao
 omega
theorem a1s a c its (k : its.length ≤ 12) : sP W0 238 [.slice a its.length c, .func (.func 155) #[] #[]] (osl 282 6 (.slice a its.length c) (its.flatMap bO) :: R) (fun v B => ∃ l, v = .tuple #[] ∧ B = osl 282 6 (.slice a its.length c) (l.flatMap bO) :: R ∧ l.Perm its ∧ ∀ p q, p < q → q < its.length → us l p ≤ us l q) := by
 refine xk (fun d e => ?_) fun g n m o d e i s t => ?_
 have u : its.length = 0 := by grind
 obtain rfl : its = [] := QaE u
 cases d
 refine am O0 ntmps238 ?_
 refine aa (bG (show IntKind.wrap .u64 ((0 : Nat) : Int) = ((0 : Nat) : Int) from rfl)) ?_
 refine aF rfl (aB O1 (ES 0 (by decide))) ?_
 rintro _ f ⟨r, rfl, b⟩
 obtain rfl := b.symm
 refine aw ?_
 refine ah (aB O3 (KF none 0 r)) ?_
 refine bU (.inr rfl) .nil ?_
 exact ⟨_, ⟨[], rfl, rfl, QaN _, fun p q _ h => by simp at h⟩, fm⟩
 cases d
 by_cases w : its.length = 0
 obtain rfl : its = [] := QaE w
 refine am O0 ntmps238 ?_
 refine aa (bG (show IntKind.wrap .u64 ((0 : Nat) : Int) = ((0 : Nat) : Int) from rfl)) ?_
 refine aF rfl (aB O1 (ES 0 (by decide))) ?_
 rintro _ f ⟨r, rfl, b⟩
 obtain rfl := b.symm
 refine aw ?_
 refine ah (aB O3 (KF _ c r)) ?_
 refine bU (.inr rfl) .nil ?_
 exact ⟨_, ⟨[], rfl, rfl, QaN _, fun p q _ h => by simp at h⟩, fk e i s t⟩
 skip
 refine am O0 ntmps238 ?_
 refine aa (bG (show IntKind.wrap .u64 ((its.length : Nat) : Int) = ((its.length : Nat) : Int) from by simp only [IntKind.wrap, IntKind.bits, IntKind.signed]; simp; omega)) ?_
 refine aF rfl (aB O1 (ES its.length (by omega))) ?_
 rintro _ f ⟨r, rfl, b⟩
 obtain rfl := b.symm
 refine aw ?_
 refine aF rfl (ap O3 (a1r g c its o r k (by omega))) ?_
 rintro _ f ⟨l, rfl, b, j, x⟩
 obtain rfl := b.symm
 have y := j.length_eq
 refine aw ?_
 refine bU (.inr rfl) .nil ?_
 exact ⟨_, ⟨l, rfl, rfl, j, x⟩, fk e i (by grind) (by grind)⟩
theorem a1t bs c a its (k : its.length ≤ 12) : sP W0 153 [.func (.func 239) #[] #[pQ bs], .func (.func 155) #[] #[]] (pt bs (ag [.slice a its.length c] 279) :: osl 282 6 (.slice a its.length c) (its.flatMap bO) :: R) (fun v B => ∃ (l : List It) (e : Option Addr) (f : Nat), v = .slice e l.length f ∧ B = osl 282 6 (.slice e l.length f) (l.flatMap bO) :: osl 282 6 (.slice a its.length c) (its.flatMap bO) :: R ∧ l.Perm its ∧ ∀ p q, p < q → q < its.length → us l p ≤ us l q) := by
 refine am func153 ntmps153 ?_
 refine aF rfl (cv call237 (a1l bs c a its (by omega))) ?_
 rintro _ m ⟨g, h, rfl, b⟩
 obtain rfl := b.symm
 refine aw ?_
 refine aF rfl (ap call238 (a1s g h its k)) ?_
 rintro _ m ⟨l, rfl, b, i, j⟩
 obtain rfl := b.symm
 have d := i.length_eq
 refine aw ?_
 refine ac ?_
 rw [← d] at j ⊢
 exact ⟨_, ⟨l, g, h, rfl, rfl, i, j⟩, IO⟩
theorem KG : ∀ {l L : List It}, l.Perm L → (∀ p q, p < q → q < l.length → us l p ≤ us l q) → L.Pairwise (fun x y => x.u < y.u) → l = L
 | [], L, a, _, _ => a.nil_eq
 | x :: l, [], a, _, _ => by have := a.length_eq; simp at this
 | x :: l, y :: L, a, c, d => by
  have k : ∀ z ∈ l, x.u ≤ z.u := fun z f => by
   obtain ⟨i, g, rfl⟩ := Qbb.1 f
   have := c 0 (i + 1) (by omega) (by simp; omega)
   simpa [us, g] using this
  obtain ⟨h, b⟩ := Qbh.1 d
  have m : x ∈ y :: L := a.subset (Qbi ..)
  have n : y ∈ x :: l := a.symm.subset (Qbi ..)
  have e : x = y := by
   grind
  subst e
  rw [KG (a.cons_inv) (fun p q j o => by
   have := c (p + 1) (q + 1) (by omega) (by simp; omega)
   simpa [us] using this) b]
def qS (x : It) : List Value := [.int .i64 x.kr, .int .i64 x.kp, .int .i64 x.ep, .int .i64 x.ef, .int .i64 x.er]
theorem ET x : (qS x).length = 5 := rfl
theorem KH b its rm nw now L (j : Rep its now L) (M : L.length ≤ 12) : sP W0 67 [pQ b] (aU b (its, [rm, nw, .bool true]) :: R) (fun v B => ∃ a c, v = .slice a L.length c ∧ B = osl 53 5 (.slice a L.length c) (L.flatMap qS) :: aU b (its, [rm, nw, .bool true]) :: R) := by
 have m := j.length
 refine am func67 ntmps67 ?_
 refine eh 2 (ap zB (wn b its rm nw)) ?_
 refine aC rfl (fun d => ?_) fun d => ?_
 exact absurd d (by decide)
 refine aw ?_
 refine AX (b := b) fun r s => ?_
 refine aw ?_
 refine aF rfl (aB call154 (a1f r its.length s)) ?_
 rintro _ y ⟨z, rfl, e⟩
 obtain rfl := e.symm
 refine aF rfl (cv call153 (a1t z s r its (by omega))) ?_
 rintro _ y ⟨l, h, d, rfl, e, t, A⟩
 obtain rfl := e.symm
 have C := t.length_eq
 obtain rfl : l = L := KG (t.trans j.perm) (fun p q D N => A p q D (by omega)) j.sort
 refine eK (B := aU b (its, [rm, nw, .bool true]) :: osl 282 6 (.slice h l.length d) (l.flatMap bO) :: R) (rY rfl) ?_
 refine aw ?_
 refine ge (fun X : Nat × Option Addr × Nat => X.1 ≤ l.length) (fun X => [(4, .slice X.2.1 X.1 X.2.2), (16, .slice h l.length d), (17, iQ (l.length : Nat)), (18, iQ X.1)]) (fun X => osl 53 5 (.slice X.2.1 X.1 X.2.2) ((l.take X.1).flatMap qS) :: aU b (its, [rm, nw, .bool true]) :: osl 282 6 (.slice h l.length d) (l.flatMap bO) :: R) (fun X => l.length - X.1) (0, none, 0) ?_ ?_ ?_ ?_
 omega
 · repeat (first | exact bK | refine aZ rfl ?_)
 exact fm
 intro ⟨i, F, G⟩ hi
 dsimp only at hi ⊢
 refine aw ?_
 refine ai (fun H => ?_) fun H => ?_
 have f : i < l.length := by omega
 refine mr (E := 282) (sz := 6) (a := h) (n := l.length) (c := d) bO l iZ (by decide) rfl (fun I => ?_)
 obtain ⟨g, o, rfl, J⟩ := I.at_ f
 have k : l.take (i + 1) = l.take i ++ [l[i]] := Qao f
 refine aw ?_
 refine aa (bM f) ?_
 refine aa (dj J) ?_
 refine bu fun K => ?_
 refine ar aA ?_
 refine gj (b := K) (o' := ag [iQ l[i].kr, iQ l[i].kp, iQ l[i].ep, iQ l[i].ef, iQ l[i].er, iQ l[i].u] 282) rfl ?_
 refine aw ?_
 refine aa (rC Na mi rfl TakeL.eq rfl) ?_
 refine dw (iA qe mi Cj rfl (fp rfl rfl hJ) rfl (by decide) (by decide) (by decide)) fun O => ?_
 refine aF rfl (eE (sz := 5) (by_ := 40) (info := Tryz.t53) qe (by kernel_rfl) rfl rfl rfl rfl (by decide) rfl rfl en rfl rfl (by simp only [maxLen]; omega) (by omega)) ?_
 rintro _ _ ⟨w, x, rfl, rfl⟩
 refine aw ?_
 refine aa bW ?_
 refine bR (i + 1, w, x) ?_ (he := ?_)
 omega
 dsimp only
 rw [k, Qbt]
 show Ent _ (osl 53 5 (.slice w (i + 1) x) ((l.take i).flatMap qS ++ [[iQ l[i].kr, iQ l[i].kp, iQ l[i].ep, iQ l[i].ef, iQ l[i].er]].flatten) :: _)
 exact IO
 refine ac ?_
 obtain rfl : i = l.length := by omega
 rw [QaU (Qam _)]
 exact ⟨_, ⟨F, G, rfl, rfl⟩, IO⟩
theorem a1u b L (f : L.length ≤ 1000) page : sP W0 150 [pQ b, iQ page] (bJ b L :: R) (fun v B => ∃ a c, v = .slice a (L.filter fun x => x.thr page).length c ∧ B = osl 51 2 (.slice a (L.filter fun x => x.thr page).length c) ((L.filter fun x => x.thr page).flatMap uK) :: bJ b (L.filter fun x => !x.thr page) :: R) := by
 refine am func150 ntmps150 ?_
 refine dw (jO rfl rfl) fun d => ?_
 refine ah (ap vf (uI b L)) ?_
 refine aF rfl (rF (B := bJ b L :: kH 0 (cq [pt d (ag [iQ page] 3)]) :: R) inferInstance (aB GD (Bh b L f 235 [pQ d] _ _ (a1c W0 d page)))) ?_
 rintro _ g ⟨a, c, rfl, e⟩
 obtain rfl := e.symm
 refine aw ?_
 refine ac ?_
 exact ⟨_, ⟨a, c, rfl, rfl⟩, IO⟩
theorem a1v b L (f : L.length ≤ 1000) page : sP W0 194 [pQ b, iQ page] (bJ b L :: R) (fun v B => ∃ a c, v = .slice a (L.filter (mP page)).length c ∧ B = osl 51 2 (.slice a (L.filter (mP page)).length c) ((L.filter (mP page)).flatMap uK) :: bJ b (L.filter fun x => !mP page x) :: R) := by
 refine am func194 ntmps194 ?_
 refine dw (jO rfl rfl) fun d => ?_
 refine ah (ap vf (uI b L)) ?_
 refine aF rfl (rF (B := bJ b L :: kH 0 (cq [pt d (ag [iQ page] 3)]) :: R) inferInstance (aB GD (Bh b L f 273 [pQ d] _ _ (a1d W0 d page)))) ?_
 rintro _ g ⟨a, c, rfl, e⟩
 obtain rfl := e.symm
 refine aw ?_
 refine ac ?_
 exact ⟨_, ⟨a, c, rfl, rfl⟩, IO⟩
theorem a1w b L (e : L.length ≤ 1000) : sQ W0 401 [pQ b] (bJ b L :: R) (iQ L.length) (bJ b [] :: R) := by
 have f : L.filter (fun _ => true) = L := QaT.2 fun _ _ => rfl
 have g : L.filter (fun x => !(fun _ => true) x) = [] := by simp
 refine am func401 ntmps401 ?_
 refine ah (ap vf (uI b L)) ?_
 refine aF rfl (rF (B := bJ b L :: kH 0 (cq []) :: R) inferInstance (aB GD (Bh b L e 434 [] _ _ (a1e W0)))) ?_
 rintro _ h ⟨a, c, rfl, d⟩
 obtain rfl := d.symm
 rw [f, g]
 refine aw ?_
 exact ac ao
def yq (k : dp) (L : List Ln) : Value := match kU k L with
 | none => .tuple #[.agg (mN (0, 0, 0)).toArray, .bool false]
 | some x => .tuple #[.agg (mN x.e).toArray, .bool true]
theorem a1x {k L} (h : ∀ j (a : j < L.length), L[j].k ≠ k) : kU k L = none := QbX.2 fun x b => by
 obtain ⟨j, a, rfl⟩ := QbO b
 simpa using h j a
theorem a1y {k L i} hi (h : L[i].k = k) (a : ∀ j (a : j < L.length), j < i → L[j].k ≠ k) : kU k L = some L[i] := by
 rw [kU, List.find?_eq_some_iff_getElem]
 exact ⟨by simpa using h, i, hi, rfl, fun j b => by simpa using a j (by omega) b⟩
theorem tu b L (C : L.length ≤ 1000) (k : dp) : sQ W0 381 [pQ b, .agg (gW k).toArray] (bJ b L :: R) (yq k L) (bJ b L :: R) := by
 refine am func381 ntmps381 ?_
 refine bB fun m => ?_
 refine bu fun p => ?_
 refine ah (ap vf (uI b L)) ?_
 refine wu (b := b) fun a c => ?_
 refine aw ?_
 refine cW (fun i : Nat => i ≤ L.length ∧ ∀ j (f : j < L.length), j < i → L[j].k ≠ k) (fun i => [(3, pQ m), (4, pQ p), (14, .slice a L.length c), (15, iQ (L.length : Nat)), (16, iQ i)]) (fun _ => pt b (ag [.slice a L.length c, .bool true] 276) :: osl 278 7 (.slice a L.length c) (L.flatMap dm) :: pt m (ag (gW k) 51) :: pt p (ag (mN (0, 0, 0)) 49) :: R) (fun i => L.length - i) 0 ?_ ?_
 grind
 intro i ⟨D, r⟩
 refine aw ?_
 refine aC rfl (fun u => ?_) fun u => ?_
 refine au 5 ?_
 have d : i < L.length := by omega
 refine mr (E := 278) (sz := 7) (a := a) (c := c) (n := L.length) dm L nF (by decide) rfl (fun v => ?_)
 obtain ⟨g, o, h, s⟩ := v.at_ d
 have e := fun q => a1y (k := k) d q r
 have l : L[i].k ≠ k → ∀ j (f : j < L.length), j < i + 1 → L[j].k ≠ k := fun q j f w => by
  rcases QaC j i with y | y
  grind
  grind
 obtain ⟨x, z⟩ : ∃ x, L[i] = x := ⟨_, rfl⟩
 rw [z] at s e l
 refine aw ?_
 refine aa (ek n0 rn rfl h rfl rfl d (by first | exact Qac _ | rfl)) ?_
 refine aa (dj s.weak) ?_
 refine bu fun F => ?_
 refine ar aA ?_
 refine aa (rC C6 rp rfl TakeL.eq rfl) ?_
 refine aa (sI Tryz.eqGuardType51 rfl rfl (sH Ce Tryz.stoodInHeld51 (lT rfl db rfl rfl (lS jj) (lT rfl db rfl rfl (lS jj) sG)))) ?_
 refine ai (fun A => ?_) fun A => ?_
 have t : x.k = k := by grind
 refine aa (rC zd sk rfl TakeL.eq rfl) ?_
 refine ar aA ?_
 refine aV (.cons (b0 zd sk rfl rfl) (.cons (aR rfl) .nil)) ?_
 rw [yq, e t]
 exact ⟨_, ⟨rfl, rfl⟩, Ent.trans (B := pt b (ag [.slice a L.length c, .bool true] 276) :: osl 278 7 (.slice a L.length c) (L.flatMap dm) :: R) inferInstance (tt (b := b) rfl)⟩
 have t : x.k ≠ k := by grind
 refine aa bW ?_
 refine bR (i + 1) ?_
 grind
 refine aw ?_
 refine ar aA ?_
 refine aV (.cons (b0 zd sk rfl rfl) (.cons (aR rfl) .nil)) ?_
 rw [yq, a1x fun j f => r j f (by omega)]
 exact ⟨_, ⟨rfl, rfl⟩, Ent.trans (B := pt b (ag [.slice a L.length c, .bool true] 276) :: osl 278 7 (.slice a L.length c) (L.flatMap dm) :: R) inferInstance (tt (b := b) rfl)⟩
@[reducible] def iI (x : Int) : List Value := [.int .i64 x]
theorem qT x : (iI x).length = 1 := rfl
theorem KI (l : List Int) sp i (h : i < l.length) : (l.flatMap iI ++ sp)[i * 1]? = some (iQ (l.getD i 0)) := by
 have := mq qT l i 0 sp h (by decide)
 rw [QbM] at this
 rw [this]; simp [List.getD, h]
theorem a1z (l : List Int) sp i x (h : i < l.length) : (l.flatMap iI ++ sp).set (i * 1) (iQ x) = (l.set i x).flatMap iI ++ sp :=
  qj qT l i 0 _ _ sp h (by decide) (by simp)
structure PFI (W0 : World) (fn : FuncId) (us cs : List Value) (C : HP) (p : Int → Bool) : Prop where
  call : ∀ args w, (callFunc fn args).run Tryz.prog w = .ok (.enter fn args) w
  spec : ∀ x R, bF Tryz.prog W0 fn (us ++ [.int .i64 x] ++ cs) (kH 0 C :: R) (fun v B => v = .bool (p x) ∧ B = kH 0 C :: R)
def a1A (l : List Int) (p : Int → Bool) (r : Int) : Prop := (r = -1 ∧ ∀ i, i < l.length → p (l.getD i 0) = false) ∨ ∃ i : Nat, r = (i : Int) ∧ i < l.length ∧ p (l.getD i 0) = true ∧ ∀ j, j < i → p (l.getD j 0) = false
theorem a1B l g c sp f us cs C p (b : PFI W0 f us cs C p) (h : l.length < 1000) : sP W0 469 [.slice (some ⟨g, 0, none⟩) l.length c, .func (.func f) us.toArray cs.toArray] (pt g (ag (l.flatMap iI ++ sp) 3) :: kH 0 C :: R) (fun v B => ∃ r, v = iQ r ∧ B = pt g (ag (l.flatMap iI ++ sp) 3) :: kH 0 C :: R ∧ a1A l p r) := by
 refine am func469 ntmps469 ?_
 refine cW (fun X : Nat => X ≤ l.length ∧ ∀ i, i < X → p (l.getD i 0) = false) (fun X => [(0, .slice (some ⟨g, 0, none⟩) l.length c), (1, .func (.func f) us.toArray cs.toArray), (7, iQ (l.length : Nat)), (8, iQ X)]) (fun X => pt g (ag (l.flatMap iI ++ sp) 3) :: kH 0 C :: R) (fun X => l.length - X) 0 ?_ ?_
 grind
 intro j ⟨k, a⟩
 refine aw ?_
 refine ai (fun e => ?_) fun e => ?_
 refine aa (bM (by omega)) ?_
 refine aa (aE (aI (KI l sp j (by omega)))) ?_
 refine ah (ue (us := us) (cs := cs) rfl b.call rfl (b.spec (l.getD j 0) _)) ?_
 refine ai (fun d => ?_) fun d => ?_
 refine ac ?_
 exact ⟨_, ⟨_, rfl, rfl, .inr ⟨j, rfl, by omega, d, a⟩⟩, IO⟩
 refine aa bW ?_
 refine bR (j + 1) ?_
 grind
 refine ac ?_
 exact ⟨_, ⟨-1, rfl, rfl, .inl ⟨rfl, fun i m => a i (by omega)⟩⟩, IO⟩
def oq (p : Int → Bool) (l : List Int) : List Int := l.filter (fun x => !p x)
theorem KJ {p l} (h : ∀ i, i < l.length → p (l.getD i 0) = false) : oq p l = l := QaT.2 fun x b => by
 obtain ⟨i, a, rfl⟩ := Qbb.1 b
 have := h i a
 simpa [List.getD, a] using this
theorem EU {p} {l : List Int} {j} (h : j < l.length) : oq p (l.take (j + 1)) = oq p (l.take j) ++ (if p (l.getD j 0) then [] else [l.getD j 0]) := by
 grind [Qao, oq]
structure DelN (p : Int → Bool) (its l : List Int) (i j : Nat) : Prop where
  len : l.length = its.length
  ij : i < j
  jl : j ≤ its.length
  front : l.take i = oq p (its.take j)
  back : ∀ k, j ≤ k → l.getD k 0 = its.getD k 0
theorem a1C {p} {l : List Int} {i} (h : i < l.length) (b : p (l.getD i 0) = true) (a : ∀ j, j < i → p (l.getD j 0) = false) : oq p (l.take (i + 1)) = l.take i := by
 grind [EU, Qav, KJ]
theorem DelN.skip {p its l i j} (h : DelN p its l i j) (b : j < its.length) (a : p (l.getD j 0) = true) : DelN p its l i (j + 1) := by
 refine ⟨h.len, by have := h.ij; omega, by omega, ?_, fun k c => h.back k (by omega)⟩
 rw [h.back j (Qam _)] at a
 rw [EU b, a, Qad rfl, Qav]; exact h.front
theorem DelN.move {p its l i j} (h : DelN p its l i j) (b : j < its.length) (a : p (l.getD j 0) = false) : DelN p its (l.set i (l.getD j 0)) (i + 1) (j + 1) := by
 have c := h.ij
 have d := h.len
 have e := h.back j (Qam _)
 rw [e] at a ⊢
 refine ⟨by rw [Qap]; exact d, by omega, by omega, ?_, fun k f => ?_⟩
 rw [EU b, a, Qaa (by decide), ← h.front, Qao (by rw [Qap]; omega), List.getElem_set_self, List.take_set_of_le (Qam _)]
 rw [← h.back k (by omega)]
 simp only [Qas]
 rw [QaW (by omega)]
theorem a1D its g c sp f us cs C p (q : PFI W0 f us cs C p) (D : its.length < 1000) (E : its.length ≤ c) (w : c ≤ maxLen) (x : (its.flatMap iI ++ sp).length = c * 1) : sP W0 465 [.slice (some ⟨g, 0, none⟩) its.length c, .func (.func f) us.toArray cs.toArray] (pt g (ag (its.flatMap iI ++ sp) 3) :: kH 0 C :: R) (fun v B => ∃ y z, v = .slice y (oq p its).length z ∧ B = osl 3 1 (.slice y (oq p its).length z) ((oq p its).flatMap iI) :: kH 0 C :: R) := by
 refine am func465 ntmps465 ?_
 refine aF rfl (cv call469 (a1B its g c sp f us cs C p q D)) ?_
 rintro _ F ⟨r, rfl, a, A⟩
 obtain rfl := a.symm
 refine aw ?_
 refine aC rfl (fun G => ?_) fun G => ?_
 refine au 8 ?_
 refine ac ?_
 have b : ∀ i, i < its.length → p (its.getD i 0) = false := by
  rcases A with ⟨_, h⟩ | ⟨i, h, _⟩
  exact h
  omega
 rw [KJ b]
 exact ⟨_, ⟨_, c, rfl, rfl⟩, fk E w (cF qT its) x⟩
 obtain ⟨i, rfl, H, s, b⟩ : ∃ i : Nat, r = (i : Int) ∧ i < its.length ∧ p (its.getD i 0) = true ∧ ∀ j, j < i → p (its.getD j 0) = false := by
  rcases A with ⟨h, _⟩ | h
  omega
  exact h
 refine aw ?_
 refine aa (dQ (i + 1)) ?_
 refine cW (fun X : List Int × Nat × Nat => DelN p its X.1 X.2.1 X.2.2) (fun X => [(0, .slice (some ⟨g, 0, none⟩) its.length c), (1, .func (.func f) us.toArray cs.toArray), (5, iQ X.2.1), (6, iQ X.2.2)]) (fun X => pt g (ag (X.1.flatMap iI ++ sp) 3) :: kH 0 C :: R) (fun X => its.length - X.2.2) (its, i, i + 1) ?_ ?_
 exact ⟨rfl, Nat.lt_succ_self _, by show i + 1 ≤ its.length; omega, (a1C H s b).symm, fun _ _ => rfl⟩
 intro ⟨l, m, j⟩ hD
 dsimp only at hD ⊢
 have N := hD.len
 have I := hD.ij
 have J := hD.jl
 refine aw ?_
 refine aC rfl (fun K => ?_) fun K => ?_
 refine au 2 ?_
 refine cy (fun Z : List Int × Nat => DelN p its Z.1 Z.2 (j + 1)) (fun Z => [(0, .slice (some ⟨g, 0, none⟩) its.length c), (1, .func (.func f) us.toArray cs.toArray), (5, iQ Z.2), (6, iQ j)]) (fun Z => pt g (ag (Z.1.flatMap iI ++ sp) 3) :: kH 0 C :: R) ?_ ?_
 refine au 5 ?_
 refine aa (bM (by omega)) ?_
 refine aa (aE (aI (KI l sp j (by omega)))) ?_
 refine ah (ue (us := us) (cs := cs) rfl q.call rfl (q.spec (l.getD j 0) _)) ?_
 refine ai (fun t => ?_) fun t => ?_
 have d : p (l.getD j 0) = false := by simpa using t
 refine aa (bM (by omega)) ?_
 refine ar (dt (by rw [Qae, cF qT]; omega) (a1z l sp m (l.getD j 0) (by omega))) ?_
 refine aa (dQ (m + 1)) ?_
 exact bq (l.set m (l.getD j 0), m + 1) (hD.move (by omega) d)
 have d : p (l.getD j 0) = true := by simpa using t
 exact bq (l, m) (hD.skip (by omega) d)
 intro ⟨L, M⟩ hD2
 refine aw ?_
 refine aa (dQ (j + 1)) ?_
 refine bR (L, M, j + 1) ?_ (hμ := ?_)
 exact hD2
 show its.length - (j + 1) < its.length - j; omega
 refine aw ?_
 obtain rfl : j = its.length := by omega
 have e := hD.front
 rw [QaU (Qam _)] at e
 have u : (oq p its).length = m := by rw [← e, QaQ]; omega
 refine aa (xU eJ aS rfl rfl rfl (by omega) (by omega) (Qac _)) ?_
 refine fh (E7 eJ ml (by simp [Value.cells, Value.oneCell']) rfl (by omega) (by rw [Qae, cF qT]; show m * 1 + (its.length - m) * 1 ≤ _; omega)) ?_
 rintro _ F ⟨o, k, rfl, a⟩
 obtain rfl := a.symm
 replace k : o.length = (its.length - m) * 1 := k
 have n : d7 (l.flatMap iI ++ sp) (m * 1) o = (oq p its).flatMap iI ++ (o ++ sp) := by
  rw [sK _ _ _ (by rw [Qae, cF qT]; omega), CZ qT l m sp (by omega), e, show m * 1 + o.length = l.length * 1 by omega, xh qT l l.length sp (Qam _)]
  simp
 rw [n]
 refine aw ?_
 refine aa (oM eJ aS rfl rfl rfl (by omega)) ?_
 refine ac ?_
 rw [u]
 exact ⟨_, ⟨_, _, rfl, rfl⟩, fk (by omega) w (by rw [cF qT, u]) (by rw [← x]; simp only [Qae, cF qT, u, k]; omega)⟩
theorem a1E g x y : sP W0 466 [.slice (some ⟨g, 0, none⟩) 2 2] (pt g (ag [iQ x, iQ y] 3) :: R) (fun v B => ∃ (l : List Int) (sp : List Value), v = .slice (some ⟨g, 0, none⟩) l.length 2 ∧ l = (if x = y then [x] else [x, y]) ∧ (l.flatMap iI ++ sp).length = 2 ∧ B = pt g (ag (l.flatMap iI ++ sp) 3) :: R) := by
 refine jz 13 func466 ntmps466 ?_
 refine jT ?_
 refine cW (fun k : Nat => k = 1 ∨ (k = 2 ∧ x ≠ y)) (fun k => [(0, .slice (some ⟨g, 0, none⟩) 2 2), (3, iQ k)]) (fun k => pt g (ag [iQ x, iQ y] 3) :: R) (fun k => 2 - k) 1 ?_ ?_
 omega
 intro k hk
 refine aw ?_
 refine ai (fun c4 => ?_) fun c4 => ?_
 obtain rfl : k = 1 := by
  omega
 refine bz [g] 10 fun hS => ?_
 refine aj 0 2 hS ?_
 refine az 2 hS (jQ eJ aS rfl rfl (j := 1) rfl (by decide) (by first | exact Qac _ | rfl)) ?_
 refine aj 3 3 hS ?_
 refine az 6 hS gz ?_
 refine az 7 hS (jQ eJ aS rfl rfl (j := 0) rfl (by decide) (by first | exact Qac _ | rfl)) ?_
 refine aj 8 2 hS ?_
 refine aJ ?_
 refine ai (fun c6 => ?_) fun c6 => ?_
 refine aa (xU eJ aS rfl rfl (i := 1) rfl (by decide) (by decide) (Qac _)) ?_
 refine cW (fun j : Nat => j = 1) (fun j => [(0, .slice (some ⟨g, 0, none⟩) 2 2), (3, iQ 1), (4, .slice (some ⟨g, 1, none⟩) 1 1), (5, iQ j)]) (fun j => pt g (ag [iQ x, iQ y] 3) :: R) (fun j => 2 - j) 1 ?_ ?_
 rfl
 intro j hj
 refine aw ?_
 refine aC rfl (fun c9 => ?_) fun c9 => ?_
 omega
 refine aw ?_
 refine aa (xU eJ aS rfl rfl (i := 1) rfl (by decide) (by decide) (Qac _)) ?_
 refine fh (E7 eJ ml (by simp [Value.cells, Value.oneCell']) rfl (by decide) (Qab rfl)) ?_
 rintro _ B_ ⟨vs, hvs, rfl, hB_⟩
 obtain rfl := hB_.symm
 obtain ⟨v, rfl⟩ : ∃ v, vs = [v] := by
  rcases vs with _ | ⟨v, _ | ⟨w, vs⟩⟩
  exact absurd hvs (by decide)
  grind
  exact absurd hvs (by simp [Value.cells])
 refine aw ?_
 refine aa (oM eJ aS rfl rfl (h := 1) rfl (by decide)) ?_
 refine ac ?_
 have hxy : x = y := by omega
 exact ⟨_, ⟨[x], [v], rfl, by rw [Qad hxy], rfl, rfl⟩, (inferInstance : Ent (pt g (ag [iQ x, v] 3) :: R) (pt g (ag [iQ x, v] 3) :: R))⟩
 refine aa (dh rfl rfl (by rw [cj (by omega)]; rfl : IntKind.wrap .i64 (1 + 1) = ((2 : Nat) : Int))) ?_
 exact bR 2 (.inr ⟨rfl, by omega⟩)
 refine ac ?_
 have hxy : x ≠ y := by
  rcases hk with h | h
  omega
  exact h.2
 exact ⟨_, ⟨[x, y], [], rfl, by rw [Qaa hxy], rfl, rfl⟩, (inferInstance : Ent (pt g (ag [iQ x, iQ y] 3) :: R) (pt g (ag [iQ x, iQ y] 3) :: R))⟩
theorem a1F W0 b L (a : L.length ≤ 1000) : PFI W0 467 [pQ b] [] (cq [bJ b L]) (gL L) := ⟨call467, fun x R => by
 refine pG ?_
 simp only [Qax, Qaw]
 refine gQ (a1a b L a x) fun v B c => ?_
 obtain ⟨rfl, rfl⟩ := c
 exact ⟨_, ⟨rfl, rfl⟩, inferInstance⟩⟩
theorem a1G b L (j : L.length ≤ 1000) r l : sP W0 443 [pQ b, iQ r, iQ l] (bJ b L :: R) (fun v B => ∃ a c, v = .slice a (mc L r l).length c ∧ B = osl 3 1 (.slice a (mc L r l).length c) ((mc L r l).flatMap iI) :: bJ b L :: R) := by
 refine am func443 ntmps443 ?_
 refine aa (uh rfl rfl (r := min r l) (by omega)) ?_
 refine aa (xT rfl rfl (r := max r l) (by omega)) ?_
 refine dw (jP eJ aS ml rfl rfl rfl rfl rfl (by decide) (by decide)) fun g => ?_
 refine aF rfl (ap call466 (a1E g (min r l) (max r l))) ?_
 rintro _ k ⟨f, i, rfl, m, e, d⟩
 obtain rfl := d.symm
 have h : oq (gL L) f = mc L r l := by
  grind [mc, oq]
 have n : f.length ≤ 2 := by grind
 refine aw ?_
 refine aF rfl (rF (B := pt g (ag (f.flatMap iI ++ i) 3) :: kH 0 (cq [bJ b L]) :: R) inferInstance (aB call465 (a1D f g 2 i 467 [pQ b] [] _ _ (a1F W0 b L j) (by omega) n (by simp only [maxLen]; omega) e))) ?_
 rintro _ k ⟨a, c, rfl, d⟩
 obtain rfl := d.symm
 rw [h]
 refine A5 ?_
 simp only [Qax, Qaw]
 refine aw ?_
 refine ac ?_
 exact ⟨_, ⟨a, c, rfl, rfl⟩, IO⟩
@[reducible] def yr (x : Ln) : List Value := [.int .i64 x.k.1, .int .i64 x.k.2, .int .i64 x.e.1, .int .i64 x.e.2.1, .int .i64 x.e.2.2]
theorem a1H b L (s : L.length ≤ 1000) : sP W0 66 [pQ b] (bJ b L :: R) (fun v B => ∃ a c, v = .slice a L.length c ∧ B = osl 53 5 (.slice a L.length c) (L.flatMap yr) :: bJ b L :: R) := by
 refine am func66 ntmps66 ?_
 refine ah (ap vf (uI b L)) ?_
 refine wu (b := b) fun a c => ?_
 refine aw ?_
 refine ge (fun X : Nat × Option Addr × Nat => X.1 ≤ L.length) (fun X => [(3, .slice X.2.1 X.1 X.2.2), (11, .slice a L.length c), (12, iQ (L.length : Nat)), (13, iQ X.1)]) (fun X => osl 53 5 (.slice X.2.1 X.1 X.2.2) ((L.take X.1).flatMap yr) :: pt b (ag [.slice a L.length c, .bool true] 276) :: osl 278 7 (.slice a L.length c) (L.flatMap dm) :: R) (fun X => L.length - X.1) (0, none, 0) ?_ ?_ ?_ ?_
 exact QaG _
 · repeat (first | exact bK | refine aZ rfl ?_)
 exact fm
 intro ⟨i, k, l⟩ hi
 dsimp only at hi ⊢
 refine aw ?_
 refine ai (fun m => ?_) fun m => ?_
 have d : i < L.length := by omega
 refine mr (E := 278) (sz := 7) (a := a) (c := c) (n := L.length) dm L nF (by decide) rfl (fun p => ?_)
 obtain ⟨g, o, e, h⟩ := p.at_ d
 obtain ⟨x, j⟩ : ∃ x, L[i] = x := ⟨_, rfl⟩
 have f : L.take (i + 1) = L.take i ++ [x] := by rw [Qao d, j]
 rw [j] at h
 refine aw ?_
 refine aa (ek n0 rn rfl e rfl rfl d (by first | exact Qac _ | rfl)) ?_
 refine aa (dj h.weak) ?_
 refine bu fun t => ?_
 refine ar aA ?_
 refine aa (rC Na mi rfl TakeL.eq rfl) ?_
 refine dw (iA qe mi Cj rfl (fp rfl rfl hJ) rfl (by decide) (by decide) (by decide)) fun u => ?_
 rw [show ([yr x] : List (List Value)).flatten = yr x from Qav _]
 refine aF rfl (eE (sz := 5) (by_ := 40) (info := Tryz.t53) qe (by kernel_rfl) rfl rfl rfl rfl (by decide) rfl rfl en rfl rfl (by simp only [maxLen]; omega) (by omega)) ?_
 rintro _ _ ⟨q, r, rfl, rfl⟩
 refine aw ?_
 refine aa bW ?_
 refine bR (i + 1, q, r) ?_ (he := ?_)
 omega
 dsimp only
 rw [f, Qbt, List.flatMap_singleton]
 exact IO
 refine ac ?_
 obtain rfl : i = L.length := by omega
 rw [Qby]
 exact ⟨_, ⟨k, l, rfl, rfl⟩, Ent.cons (tt (b := b) rfl)⟩
theorem a1I (L : List Ln) sp i hi : ((L.flatMap dm ++ sp).drop (i * 7)).take 7 = dm L[i] := rE nF L i sp hi
theorem KL (L : List Ln) sp i j hi (a : j < 7) : (L.flatMap dm ++ sp)[i * 7 + j]? = (dm L[i])[j]? := mq nF L i j sp hi a
theorem KM (L : List Ln) sp i hi : (L.flatMap dm ++ sp).set (i * 7 + 4) (iQ (ig L[i].e.2.2)) = (L.set i L[i].nar).flatMap dm ++ sp :=
  qj nF L i 4 _ _ sp hi (by decide) rfl
theorem a1J {W0 A R g L sp} [h : Tk pt g A (ag (L.flatMap dm ++ sp) 278) R] : cG (aQ W0 A) (some ⟨g, 0, none⟩) 7 dm L := fun i x a => by
 obtain ⟨b, rfl⟩ := List.getElem?_eq_some_iff.1 a
 refine ⟨g, 0, rfl, ?_⟩
 rw [Qac]
 exact cQ (a1I L sp i b) rfl
theorem a1K b v0 : sQ W0 151 [pQ b] (pt b (ag [v0, .bool true] 276) :: R) (.bool false) (pt b (ag [v0, .bool true] 276) :: R) := by
 refine am func151 ntmps151 ?_
 refine dk rfl rfl rfl (fun a => ?_) fun a => ?_
 cases a
 refine aw ?_
 exact ac ao
theorem a1L b L (A : L.length ≤ 1000) a n c (r : L.length = n) (s : cG (aQ W0 (pt b (ag [.slice a n c, .bool true] 276) :: R)) a 7 dm L) p : sQ W0 467 [pQ b, iQ p] (pt b (ag [.slice a n c, .bool true] 276) :: R) (.bool (gL L p)) (pt b (ag [.slice a n c, .bool true] 276) :: R) := by
 subst r
 refine am func467 ntmps467 ?_
 refine ah (ap vf (a1K b _)) ?_
 refine cW (fun i : Nat => i ≤ L.length ∧ ∀ j (f : j < L.length), j < i → L[j].thr p = false) (fun i => [(0, pQ b), (1, iQ p), (12, iQ (L.length : Nat)), (13, iQ i)]) (fun _ => pt b (ag [.slice a L.length c, .bool true] 276) :: R) (fun i => L.length - i) 0 ?_ ?_
 grind
 intro i ⟨B, t⟩
 refine aw ?_
 refine aC rfl (fun u => ?_) fun u => ?_
 refine au 11 ?_
 have d : i < L.length := by omega
 obtain ⟨g, o, k, l⟩ := s.at_ d
 obtain ⟨x, h⟩ : ∃ x, L[i] = x := ⟨_, rfl⟩
 have e : x.thr p = true → gL L p = true := fun q => uH.2 ⟨x, by rw [← h]; exact QaF d, q⟩
 have v : x.thr p = false → ∀ j (f : j < L.length), j < i + 1 → L[j].thr p = false := fun q j f w => by
  rcases QaC j i with y | y
  grind
  grind
 rw [h] at l
 refine aw ?_
 refine aa (ek n0 rn rfl k rfl rfl d (by first | exact Qac _ | rfl)) ?_
 refine ah (aB GC (Bg g (o + i * 7) x l p)) ?_
 refine ai (fun m => ?_) fun m => ?_
 refine ac ?_
 rw [e m]
 exact ao
 refine aa bW ?_
 refine bR (i + 1) ?_
 grind
 refine aw ?_
 refine ac ?_
 have z : gL L p = false := by
  rw [← Qau, uH]
  rintro ⟨x, h, q⟩
  obtain ⟨j, f, rfl⟩ := QbO h
  rw [t j f (by omega)] at q; cases q
 rw [z]
 exact ao
def kK (r l : Int) (L : List Ln) (i : Nat) : List Ln := (L.take i).map (dN r l) ++ L.drop i
theorem KN r l L i (a : i ≤ L.length) : (kK r l L i).length = L.length := by simp [kK]; omega
theorem a1M {r l : Int} {L : List Ln} {i : Nat} (a : i < L.length) : (kK r l L i)[i]'(by grind [KN]) = L[i] := by
 grind [kK]
theorem a1N {r l L i} hi : kK r l L (i + 1) = (kK r l L i).set i (dN r l L[i]) := by
 have a : ((L.take i).map (dN r l)).length = i := by simp; omega
 unfold kK
 rw [Qao hi, QaH, QcH, Qbf hi (l := L), QbB _ _ (by omega), a, Nat.sub_self, List.set_cons_zero]
 simp
theorem a1O b L z (K : (L ++ [z]).length ≤ 1000) (C : ∀ x ∈ L ++ [z], i64 x.e.2.2) r l : sQ W0 446 [pQ b, iQ r, iQ l] (bJ b (L ++ [z]) :: R) (.tuple #[]) (bJ b (wt ((L ++ [z]).map (dN r l))) :: R) := by
 have h : wt ((L ++ [z]).map (dN r l)) = L.map (dN r l) ++ [if gL ((L ++ [z]).map (dN r l)) (dN r l z).e.1 then (dN r l z).nar else dN r l z] := by
  rw [QaH, QcH, Kl]
 have k : kK r l (L ++ [z]) (L ++ [z]).length = (L ++ [z]).map (dN r l) := by unfold kK; rw [Qby, List.drop_length, Qav]
 obtain ⟨M, t⟩ : ∃ M, L ++ [z] = M := ⟨_, rfl⟩
 have u : M.length = L.length + 1 := by rw [← t]; simp
 rw [t] at h k K C ⊢
 have D : i64 (dN r l z).e.2.2 := by
  have := C z (by rw [← t]; simp)
  unfold dN; split
  show i64 (ig z.e.2.2)
  obtain ⟨N, O⟩ := this
  unfold ig; split
  rename_i P
  have := Qar P
  exact ⟨by omega, by omega⟩
  exact ⟨N, O⟩
  exact this
 refine am func446 ntmps446 ?_
 refine a08 (b := b) (by intro q; rw [q] at u; simp at u) fun g c m U H I => ?_
 refine aw ?_
 refine ge (fun i : Nat => i ≤ M.length) (fun i => [(0, pQ b), (1, iQ r), (2, iQ l), (13, iQ (M.length : Nat)), (14, iQ i)]) (fun i => pt b (ag [.slice (some ⟨g, 0, none⟩) M.length c, .bool true] 276) :: pt g (ag ((kK r l M i).flatMap dm ++ m) 278) :: R) (fun i => M.length - i) 0 ?_ ?_ ?_ ?_
 exact QaG _
 · repeat (first | exact bK | refine aZ rfl ?_)
 rw [show kK r l M 0 = M by simp [kK]]
 exact IO
 intro i Q
 refine aw ?_
 refine aC rfl (fun S => ?_) fun S => ?_
 refine au 2 ?_
 refine cy (fun _ : Unit => True) (fun _ => [(0, pQ b), (1, iQ r), (2, iQ l), (13, iQ (M.length : Nat)), (14, iQ i)]) (fun _ => pt b (ag [.slice (some ⟨g, 0, none⟩) M.length c, .bool true] 276) :: pt g (ag ((kK r l M (i + 1)).flatMap dm ++ m) 278) :: R) ?_ ?_
 refine au 8 ?_
 have a : i < M.length := by omega
 have p := KN r l M i Q
 have n : (kK r l M i)[i]'(by rw [p]; exact a) = M[i] := a1M a
 have o := a1N (r := r) (l := l) a
 have s := C _ (QaF a)
 have d := fun j E => KL (kK r l M i) m i j (by rw [p]; exact a) E
 have f := KM (kK r l M i) m i (by rw [p]; exact a)
 rw [n] at d f
 obtain ⟨x, J⟩ : ∃ x, M[i] = x := ⟨_, rfl⟩
 rw [J] at o s d f
 refine aw ?_
 refine aa (bM a) ?_
 refine aa (aE (aI ((d 2 (by decide)).trans rfl))) ?_
 refine cn (fun v => ?_) fun v => ?_
 refine aa (bM a) ?_
 refine ah (ap O4 (ER g (i * 7) ((kK r l M i).flatMap dm ++ m) x.e.2.2 s ((d 4 (by decide)).trans rfl))) ?_
 rw [f]
 refine bq () ?_ (he := ?_)
 trivial
 rw [o, show dN r l x = x.nar from Qad (by omega)]
 exact IO
 refine ai (fun T => ?_) fun T => ?_
 refine aa (bM a) ?_
 refine ah (ap O4 (ER g (i * 7) ((kK r l M i).flatMap dm ++ m) x.e.2.2 s ((d 4 (by decide)).trans rfl))) ?_
 rw [f]
 refine bq () ?_ (he := ?_)
 trivial
 rw [o, show dN r l x = x.nar from Qad (by omega)]
 exact IO
 refine bq () ?_ (he := ?_)
 trivial
 rw [o, show dN r l x = x from Qaa (by omega), show (kK r l M i).set i x = kK r l M i by rw [← J, ← n, QbU]]
 exact IO
 intro _ _
 refine aw ?_
 refine aa bW ?_
 exact bR (i + 1) (by omega)
 refine aw ?_
 obtain rfl : i = M.length := by omega
 rw [k]
 have w : (M.map (dN r l)).length = M.length := Qay _
 have y : L.length < (M.map (dN r l)).length := by omega
 have n : (M.map (dN r l))[L.length] = dN r l z := by simp [← t]
 have d := fun j E => KL (M.map (dN r l)) m L.length j y E
 have f := KM (M.map (dN r l)) m L.length y
 have F : (M.map (dN r l)).set L.length (dN r l z).nar = L.map (dN r l) ++ [(dN r l z).nar] := by
  rw [← t, QaH, QbB _ _ (by simp)]; simp
 have A : M.map (dN r l) = L.map (dN r l) ++ [dN r l z] := by rw [← t, QaH]; rfl
 rw [n] at d f
 refine bz [b] 12 fun B => ?_
 refine aj 0 9 B ?_
 refine az 9 B (nV L.length) ?_
 refine az 10 B (bM (by omega)) ?_
 refine aj 11 1 B ?_
 refine aJ ?_
 refine aa (aE (aI ((d 2 (by decide)).trans rfl))) ?_
 refine ah (ap call467 (a1L b (M.map (dN r l)) (by omega) (some ⟨g, 0, none⟩) M.length c w (a1J (g := g) (sp := m)) (dN r l z).e.1)) ?_
 refine ai (fun G => ?_) fun G => ?_
 refine ah (ap O4 (ER g (L.length * 7) ((M.map (dN r l)).flatMap dm ++ m) (dN r l z).e.2.2 D ((d 4 (by decide)).trans rfl))) ?_
 rw [f, F]
 refine bU (.inr rfl) .nil ?_
 rw [h, Qad G]
 exact ⟨_, ⟨rfl, rfl⟩, Kw (b := b) rfl (by simp; omega) (by omega) H (by rw [← I]; simp only [Qae, cF nF, Qay, QbV]; omega)⟩
 refine bU (.inr rfl) .nil ?_
 rw [h, Qaa G, ← A]
 exact ⟨_, ⟨rfl, rfl⟩, Kw (b := b) rfl w.symm (by omega) H (by rw [← I]; simp only [Qae, cF nF, Qay])⟩
theorem a1P l a n c (j : l.length = n) (t : n ≤ 1000) (f : cG (aQ W0 R) a 7 dm l) : sP W0 445 [.slice a n c] R (fun v B => ∃ g i, v = .slice g n i ∧ B = osl 278 7 (.slice g n i) (l.flatMap dm) :: R) := by
 subst j
 refine am func445 ntmps445 ?_
 refine aa (A3 n0 rfl rfl) ?_
 refine aC rfl (fun e => ?_) fun e => ?_
 refine au 7 ?_
 refine ac ?_
 have k : l = [] := by
  rcases l with _ | ⟨x, l⟩
  rfl
  obtain ⟨b, o, h, _⟩ := f 0 x rfl
  rw [e] at h; cases h
 subst k
 exact ⟨_, ⟨none, 0, rfl, rfl⟩, fm⟩
 have d := f.src nF (fun _ => trivial)
 refine jk (aH (aO (aY (aF rfl (vB n0 rn rfl) ?_))))
 rintro _ _ ⟨u, rfl, rfl⟩
 refine aw ?_
 refine aF rfl (AA (sz := 7) (by_ := 56) (info := Tryz.t278) n0 (by kernel_rfl) rfl rfl rfl rfl (by decide) rfl rfl (news := l.flatMap dm) (by
 rcases d with h | ⟨m, p, q, r⟩
 grind
 right; exact ⟨m, p, q, r.weak⟩) (cF nF l) (EK Ki l) (by simp only [maxLen]; omega) (by omega)) ?_
 rintro _ _ ⟨s, e, rfl, rfl⟩
 refine aw ?_
 refine ac ?_
 rw [Qac, Qaw]
 exact ⟨_, ⟨s, e, rfl, rfl⟩, IO⟩
theorem a1Q k e r l L : yo (yn k e r l L) = kV k L ++ [⟨k, e, r, l⟩] := by
 grind [yo, yn, kV]
theorem a1R {α S a g o sz f} {c : List α} (h : cG S a sz f c) (d : a = some ⟨g, o, none⟩) : cG S (some ⟨g, o + sz, none⟩) sz f c.tail := fun i x l => by
 obtain ⟨b, j, e, k⟩ := h (i + 1) x (by grind)
 rw [d] at e; cases e
 exact ⟨g, o + sz, rfl, by rw [show o + sz + i * sz = o + (i + 1) * sz by rw [Qcf]; omega]; exact k⟩
theorem a1S b L (N : L.length ≤ 32) (hr : ∀ x ∈ L, i64 x.e.2.2) (k : dp) (e : jH) (he : i64 e.2.2) r l (O : uJ r = true) (P : uJ l = true) : sP W0 423 [pQ b, .agg (gW k).toArray, .agg (mN e).toArray, iQ r, iQ l] (bJ b L :: R) (fun v B => ∃ a c, v = .tuple #[.slice a (mc L r l).length c, iQ 0] ∧ B = osl 3 1 (.slice a (mc L r l).length c) ((mc L r l).flatMap iI) :: bJ b (md k e r l L) :: R) := by
 have u : L.filter (fun x => !(decide (x.k = k))) = L.filter fun x => decide (x.k ≠ k) := by
  grind
 obtain ⟨M, F⟩ : ∃ M, (L.filter fun x => decide (x.k ≠ k)) = M := ⟨_, rfl⟩
 have Q : M.length ≤ 32 := by grind
 have G : kV k L = if 31 < M.length then M.tail else M := by rw [kV, F]
 have S := Ks (k := k) N
 have A : ∀ x ∈ kV k L ++ [(⟨k, e, r, l⟩ : Ln)], i64 x.e.2.2 := fun x T => by
  rcases QaS.1 T with q | q
  grind [EM]
  grind
 have U : md k e r l L = wt ((kV k L ++ [(⟨k, e, r, l⟩ : Ln)]).map (dN r l)) := by rw [md, a1Q]
 obtain ⟨j, w⟩ : ∃ f, mc L r l = f := ⟨_, rfl⟩
 rw [w, U]
 refine am func423 ntmps423 ?_
 refine bB fun z => ?_
 refine bB fun H => ?_
 refine ah (ap vf (uI b L)) ?_
 refine ah (aB call442 (Kx r)) ?_
 rw [O]
 refine ai (fun h => ?_) fun h => ?_
 exact absurd rfl h
 refine ah (aB call442 (Kx l)) ?_
 rw [P]
 refine aC rfl (fun y => ?_) fun y => ?_
 exact absurd rfl y
 refine jk (oI (aH (aO (aY (ae rfl (aM rfl) (ae rfl (aM rfl) (ae rfl (aM rfl) ?_)))))))
 refine aF rfl (ap call443 (a1G b L (by omega) r l)) ?_
 rintro _ I ⟨o, p, rfl, m⟩
 obtain rfl := m.symm
 rw [w]
 refine ae rfl (bC rfl) (aL (aH (aO (aY (ae rfl (aM rfl) (ae rfl (xj rfl rfl) ?_))))))
 refine aF rfl (rF (B := bJ b L :: kH 0 (cq [pt z (ag (gW k) 51)]) :: osl 3 1 (.slice o j.length p) (j.flatMap iI) :: pt H (ag (mN e) 49) :: R) inferInstance (aB GD (Bh b L (by omega) 444 [pQ z] _ _ (a1b W0 z k)))) ?_
 rintro _ I ⟨ak, ck, rfl, m⟩
 obtain rfl := m.symm
 rw [u, F]
 refine A5 ?_
 simp only [Qax, Qaw]
 refine wu (b := b) fun a c => ?_
 refine aL (aH ?_)
 refine cy (fun X : Option Addr × Nat => True) (fun X => [(0, pQ b), (3, iQ r), (4, iQ l), (12, .slice o j.length p)]) (fun X => pt b (ag [.slice X.1 (M.length + 1) X.2, .bool true] 276) :: osl 278 7 (.slice X.1 (M.length + 1) X.2) (M.flatMap dm ++ dm (⟨k, e, r, l⟩ : Ln)) :: osl 3 1 (.slice o j.length p) (j.flatMap iI) :: R) ?_ ?_
 refine bz [z, H] 16 fun d => ?_
 refine aj 0 4 d ?_
 refine aj 5 2 d ?_
 refine az 7 d (fT Nz Cj (aP rp (aP sk fR)) (kh rfl rp rfl rfl (Qab rfl) SetRL.eq (kh rfl sk rfl rfl (Qab rfl) SetRL.eq fQ))) ?_
 refine aj 8 2 d ?_
 refine az 10 d (fT a7D Ch (aP mi (aP aS (aP aS fR))) (kh rfl mi rfl rfl (Qab rfl) SetRL.eq (cu rfl aS rfl rfl (Qab rfl) SetL.eq (cu rfl aS rfl rfl (Qab rfl) SetL.eq fQ)))) ?_
 refine eD (is := [4, 11]) (by kernel_rfl) rfl ⟨?_, ?_, trivial⟩
 refine cX (dP (aE (aI rfl))) ?_; clear d
 rintro _ _ ⟨rfl, rfl⟩
 refine ⟨aT, fun d => ?_⟩
 refine kt 11 (by kernel_rfl) rfl rfl (iA n0 rn Ch rfl (fp rfl rfl hJ) rfl (by decide) (by decide) (by decide)) rfl ?_; clear d
 rintro _ _ ⟨V, rfl, rfl⟩
 rw [show ([dm (⟨k, e, r, l⟩ : Ln)] : List (List Value)).flatten = dm (⟨k, e, r, l⟩ : Ln) from Qav _]
 refine ⟨aT, fun d => ?_⟩
 refine bQ 12 (eE (sz := 7) (by_ := 56) (info := Tryz.t278) n0 (by kernel_rfl) rfl rfl rfl rfl (by decide) rfl rfl en rfl rfl (by simp only [maxLen]; omega) (by omega)) ?_; clear d
 rintro _ _ ⟨s, h, rfl, rfl⟩
 refine ⟨aT, fun d => ?_⟩
 refine aj 13 2 d ?_
 refine cm 15 dX fun d => ?_
 refine hQ ?_
 refine aH ?_
 exact bq (s, h) trivial
 skip
 refine nU rfl rfl (iA n0 rn Ch rfl (fp rfl rfl hJ) rfl (by decide) (by decide) (by decide)) rfl ?_; clear d
 rintro _ _ ⟨V, rfl, rfl⟩
 rw [show ([dm (⟨k, e, r, l⟩ : Ln)] : List (List Value)).flatten = dm (⟨k, e, r, l⟩ : Ln) from Qav _]
 refine ⟨aT, fun d => ?_⟩
 refine bY 4 (dP (aE (aI rfl))) fun d => ?_
 refine bQ 12 (eE (sz := 7) (by_ := 56) (info := Tryz.t278) n0 (by kernel_rfl) rfl rfl rfl rfl (by decide) rfl rfl en rfl rfl (by simp only [maxLen]; omega) (by omega)) ?_; clear d
 rintro _ _ ⟨s, h, rfl, rfl⟩
 refine ⟨aT, fun d => ?_⟩
 refine aj 13 2 d ?_
 refine cm 15 dX fun d => ?_
 refine aJ ?_
 exact bq (s, h) trivial
 intro ⟨s, h⟩ _
 dsimp only
 refine cy (fun _ : Unit => True) (fun _ => [(0, pQ b), (3, iQ r), (4, iQ l), (12, .slice o j.length p)]) (fun _ => bJ b (kV k L ++ [(⟨k, e, r, l⟩ : Ln)]) :: osl 3 1 (.slice o j.length p) (j.flatMap iI) :: R) ?_ ?_
 refine au 10 ?_
 refine ai (fun W => ?_) fun W => ?_
 have t : (M.flatMap dm ++ dm (⟨k, e, r, l⟩ : Ln)) = (M ++ [(⟨k, e, r, l⟩ : Ln)]).flatMap dm := by grind
 refine vG (E := 278) (sz := 7) (a := s) (c := h) (n := M.length + 1) (ys := M.flatMap dm ++ dm (⟨k, e, r, l⟩ : Ln)) (fun Y => ?_)
 obtain ⟨g, rfl⟩ := vU Y (by simp [dm])
 refine Al (E := 278) (sz := 7) (a := some ⟨g, 0, none⟩) (c := h) (n := M.length + 1) (fun J => ?_)
 refine mr (E := 278) (sz := 7) (a := some ⟨g, 0, none⟩) (c := h) (n := M.length + 1) dm (M ++ [(⟨k, e, r, l⟩ : Ln)]) nF (by decide) t (fun Z => ?_)
 refine aw ?_
 refine aa (xU (o' := 0 + 7) n0 rn rfl rfl (i := 1) rfl (by omega) (by omega) rfl) ?_
 refine aF rfl (aB call445 (a1P ((M ++ [(⟨k, e, r, l⟩ : Ln)]).tail) (some ⟨g, 0 + 7, none⟩) (M.length + 1 - 1) (h - 1) (by simp) (by omega) (a1R Z rfl))) ?_
 rintro _ I ⟨K, y, rfl, m⟩
 obtain rfl := m.symm
 refine aw ?_
 refine ar dX ?_
 refine bq () ?_ (he := ?_)
 trivial
 have C : M ≠ [] := by grind
 have D : (M ++ [(⟨k, e, r, l⟩ : Ln)]).tail = M.tail ++ [(⟨k, e, r, l⟩ : Ln)] := List.tail_append_of_ne_nil C
 rw [G, Qad (by omega), ← D]
 exact Ent.trans (B := pt b (ag [.slice K (M.length + 1 - 1) y, .bool true] 276) :: osl 278 7 (.slice K (M.length + 1 - 1) y) ((M ++ [(⟨k, e, r, l⟩ : Ln)]).tail.flatMap dm) :: osl 3 1 (.slice o j.length p) (j.flatMap iI) :: R) inferInstance (tt (b := b) (by simp))
 refine bq () ?_ (he := ?_)
 trivial
 rw [G, Qaa (by omega)]
 have t : (M.flatMap dm ++ dm (⟨k, e, r, l⟩ : Ln)) = (M ++ [(⟨k, e, r, l⟩ : Ln)]).flatMap dm := by grind
 rw [t]
 exact Ent.trans (B := pt b (ag [.slice s (M.length + 1) h, .bool true] 276) :: osl 278 7 (.slice s (M.length + 1) h) ((M ++ [(⟨k, e, r, l⟩ : Ln)]).flatMap dm) :: osl 3 1 (.slice o j.length p) (j.flatMap iI) :: R) inferInstance (tt (b := b) (by simp))
 intro _ _
 refine aw ?_
 refine ah (ap call446 (a1O b (kV k L) (⟨k, e, r, l⟩ : Ln) (by simp; omega) A r l)) ?_
 refine ax ?_
 exact ⟨_, ⟨o, p, rfl, rfl⟩, IO⟩
def qU (pg : List Pl) (n : Int) : Int := if jo n then (if aN pg n then 0 else 3) else 1
def fe (pg : List Pl) (n : Int) : List Pl := if aN pg n then pg.set n.toNat (0, 0) else pg
theorem KO {pg n} (h : aN pg n = true) : jo n = true := by
 grind [aN]
theorem KP {pg n} (h : Pgs pg) : Pgs (fe pg n) := by
 unfold fe; split
 refine ⟨by simp [h.len], fun m b a => ?_⟩
 unfold ew at a ⊢
 by_cases e : n.toNat = m
 grind
 simp only [Qas, QaW e] at a ⊢
 have := h.ok m b
 unfold ew at this
 simp only [Qas] at this
 exact this a
 exact h
theorem KQ b pg (h : Pgs pg) n : sQ W0 122 [pQ b, iQ n] (pt b (bI pg) :: R) (iQ (qU pg n)) (pt b (bI (fe pg n)) :: R) := by
 have g := h.len
 refine am NI ntmps122 ?_
 refine ah (ap zt (vO b pg h)) ?_
 refine ah (aB Cl (xu n)) ?_
 refine ai (fun d => ?_) fun d => ?_
 refine ac ?_
 have c : jo n = false := by grind
 have a : aN pg n = false := by simp [aN, c]
 exact ⟨_, ⟨by simp [aK, qU, c], by rw [fe, a, Qaa (by decide)]⟩, IO⟩
 have c : jo n = true := by grind
 refine ah (ap Gj (Ad b pg h n)) ?_
 refine ai (fun e => ?_) fun e => ?_
 refine ac ?_
 have a : aN pg n = false := by grind
 exact ⟨_, ⟨by simp [aK, qU, c, a], by rw [fe, a, Qaa (by decide)]⟩, IO⟩
 have a : aN pg n = true := by grind
 obtain ⟨i, rfl, f⟩ := kz c
 refine aa (eG f) ?_
 refine ar (iD (by grind [I7]) (Ac (p := (0, 0)) (by omega))) ?_
 refine ac ?_
 rw [show fe pg i = pg.set i (0, 0) by rw [fe, Qad a, Qaf]]
 exact ⟨_, ⟨by simp [aK, qU, c, a], rfl⟩, IO⟩
theorem a1T {a : List Pl} {i} (h : a.length = 12) (c : i < 12) : d7 ((a.map kA ++ a.flatMap eM).set (i * 1) (.bool false)) (12 + i * 2) (eM (0, 0)) = (a.set i (0, 0)).map kA ++ (a.set i (0, 0)).flatMap eM := by
 have b : kA (0, 0) = .bool false := by rfl
 rw [Qaz, Qca _ _ (by simp; omega), ← b, ← List.map_set]
 have e := Dt (eM (0, 0)) ((a.set i (0, 0)).map kA) (a.flatMap eM) (i * 2)
 rw [show ((a.set i (0, 0)).map kA).length = 12 by simp [h]] at e
 rw [e]
 have := Ac (pg := a) (sp := []) (n := i) (p := (0, 0)) (by omega)
 rw [Qav, Qav] at this
 rw [this]
theorem KR b pg (h : Pgs pg) n : sQ W0 125 [pQ b, iQ n] (pt b (dI pg) :: R) (iQ (qU pg n)) (pt b (dI (fe pg n)) :: R) := by
 have g := h.len
 refine am func125 ntmps125 ?_
 refine ah (aB NL (Du n)) ?_
 refine ai (fun j => ?_) fun j => ?_
 refine ac ?_
 have d : jo n = false := by grind
 have c : aN pg n = false := by simp [aN, d]
 exact ⟨_, ⟨by simp [aK, qU, d], by rw [fe, c, Qaa (by decide)]⟩, IO⟩
 have d : jo n = true := by grind
 obtain ⟨i, a, e⟩ := kz d
 have f := Ds (pg := pg) (sp := pg.flatMap eM) (i := i) (by omega)
 have k : aN pg n = decide (ew pg i ≠ (0, 0)) := by grind [aN]
 refine aa (fB zm iN rfl rfl a e (by first | exact Qac _ | rfl)) ?_
 refine ae rfl (co nP rfl (cQ (vs := [kA (ew pg i)]) f rfl 0 _ rfl)) ?_
 refine ae rfl (rz rfl) (aL (aH ?_))
 refine aC rfl (fun l => ?_) fun l => ?_
 have c : aN pg n = false := by grind
 refine aw ?_
 refine ac ?_
 exact ⟨_, ⟨by simp [aK, qU, d, c], by rw [fe, c, Qaa (by decide)]⟩, IO⟩
 have c : aN pg n = true := by grind
 refine aw ?_
 refine aa (fB zm iN rfl rfl a e (by first | exact Qac _ | rfl)) ?_
 refine ar (dt (by grind) rfl) ?_
 refine aa (fB G4 qd rfl rfl a e (by first | exact Qac _ | rfl)) ?_
 refine ar (iD (by rw [Qap, Qae, Qay, cF ul]; omega) (a1T g e)) ?_
 refine ac ?_
 rw [show fe pg n = pg.set i (0, 0) by rw [fe, Qad c, a, Qaf]]
 exact ⟨_, ⟨by simp [aK, qU, d, c], rfl⟩, IO⟩
theorem Bj {fr pg va a} : jq fr pg va a = true ↔ eI fr.length pg a (va / 1024) = true ∧ nX (dY fr pg a (va / 1024)) = 0 := by simp [jq]
structure WkOkM (fr : List aD) (pg : List Pl) (root : Int) (va : Nat) : Prop where
  lim : va < 16384
  rb : jq fr pg va root = true
  lt : eI fr.length pg (eN fr pg va root) (va / 64) = true
  eq : ci fr pg root va = ⟨nY (dY fr pg (eN fr pg va root) (va / 64)), nZ (dY fr pg (eN fr pg va root) (va / 64)), o8 (dY fr pg (eN fr pg va root) (va / 64)), 0, root, eN fr pg va root⟩
  lf : np (dY fr pg (eN fr pg va root) (va / 64)) = 0
theorem Bl {fr pg root va} (h : (ci fr pg root va).fault = 0) : WkOkM fr pg root va := by
 unfold ci at h
 by_cases c : va < 16384
 rw [Qad c] at h
 by_cases a : jq fr pg va root = true
 rw [Qad a] at h
 have d := Bj.1 a
 simp only [fG, pN] at h
 by_cases b : eI fr.length pg (eN fr pg va root) (va / 64) = true
 rw [Qad b] at h
 refine ⟨c, a, b, ?_, h⟩
 rw [ci, Qad c, Qad a]
 simp only [fG, pN]
 rw [Qad b, kO, Qad d.1]
 simp only [nu]
 rw [show np (dY fr pg (eN fr pg va root) (va / 64)) = 0 from h]
 grind
 rw [Qaa a] at h
 simp only [fG, kO] at h
 by_cases b : eI fr.length pg root (va / 1024) = true
 rw [Qad b] at h
 exact absurd (Bj.2 ⟨b, h⟩) a
 grind
 grind [fG]
def yt (fr : List aD) (pg : List Pl) (fr' : List aD) (pg' : List Pl) (t : Int) : Prop := ∀ i, eI fr'.length pg' t i = eI fr.length pg t i ∧ dY fr' pg' t i = dY fr pg t i
theorem a1U {fr fr' pg pg' root va} (h : WkOkM fr pg root va) (a : yt fr pg fr' pg' root) (b : yt fr pg fr' pg' (eN fr pg va root)) : ci fr' pg' root va = ci fr pg root va := by
 have c : eN fr' pg' va root = eN fr pg va root := by unfold eN; rw [(a _).1, (a _).2]
 have d : jq fr' pg' va root = jq fr pg va root := by unfold jq; rw [(a _).1, (a _).2]
 have e : ∀ s, kO fr' pg' va root s = kO fr pg va root s := fun s => by unfold kO; rw [(a _).1, (a _).2]
 rw [ci, ci, Qad h.lim, Qad h.lim, d, h.rb, Qad rfl, Qad rfl]
 simp only [fG]
 rw [c, e]
 unfold pN
 rw [(b _).1, (b _).2]
theorem KS {t i j} (h : j < 4) : (64 * t + 4 * (i % 16) + j) / 64 = t := by omega
theorem EV {a : List aD} {pg t i} (h : eI a.length pg t i = true) : aN pg t = true := by
 obtain ⟨c, b⟩ := qz.1 h
 obtain ⟨k, rfl⟩ : ∃ k : Nat, t = (k : Int) := ⟨t.toNat, by omega⟩
 have := (uo.1 b).2 0 (by decide)
 rw [show iW (gm (k : Int) i + 0) = (k : Int) by rw [show gm (k : Int) i = 64 * k + 4 * (i % 16) from rfl, iW, KS (by decide)]] at this
 exact (xB.1 this).1
theorem EW {fr fr' pg pg' t} (m : fr'.length = fr.length) (q : aN pg' t = aN pg t) (g : bH pg' t = bH pg t) (r : aN pg t = true → ∀ o : Nat, o < 64 → kx fr' (bH pg t).1 o 1 = kx fr (bH pg t).1 o 1) : yt fr pg fr' pg' t := by
 intro i
 by_cases s : 0 ≤ t ∧ t < 8
 · obtain ⟨k, rfl⟩ : ∃ k : Nat, t = (k : Int) := ⟨t.toNat, by omega⟩
   have f : gm (k : Int) i = 64 * k + 4 * (i % 16) := rfl
   have c : ∀ j, j < 4 → iW (gm (k : Int) i + j) = (k : Int) := fun j a => by
    rw [f, iW, KS a]
   have h : j7 fr'.length pg' (gm (k : Int) i) 4 = j7 fr.length pg (gm (k : Int) i) 4 := by
    have e : ∀ j, j < 4 → jB fr'.length pg' (iW (gm (k : Int) i + j)) = jB fr.length pg (iW (gm (k : Int) i + j)) := fun j a => by
     rw [c j a, jB, jB, q, g, m]
    unfold j7
    congr 1
    apply QaA.2
    unfold oN
    constructor
    grind
    grind
   have l : eI fr'.length pg' (k : Int) i = eI fr.length pg (k : Int) i := by grind [eI]
   refine ⟨l, ?_⟩
   unfold dY
   rw [l]
   by_cases b : eI fr.length pg (k : Int) i = true
   case neg => rw [Qaa b, Qaa b]
   have u : i3 fr' pg' (gm (k : Int) i) 4 = i3 fr pg (gm (k : Int) i) 4 := by
    unfold i3
    apply List.map_congr_left
    intro j a
    have a := QbD.1 a
    unfold pM nr
    rw [c j a, g]
    exact r (EV b) _ (Qcd _ (by decide))
   rw [u]
 have d : ∀ n p, eI n p t i = false := fun n p => by unfold eI; rw [Qal s, QcR]
 refine ⟨by rw [d, d], ?_⟩
 unfold dY; rw [d, d, Qaa (by decide), Qaa (by decide)]
theorem a1V {fr f f' off w o k x} (h : f' ≠ f) : kx (fM fr f off w x) f' o k = kx fr f' o k := by
 unfold fM
 split
 rename_i a
 simp only [lk, Qan] at a
 obtain ⟨i, rfl, b⟩ := qx a.1
 unfold kx
 rw [Qap]
 split
 grind [qx]
 rfl
 rfl
structure LOk (fr : List aD) (pg : List Pl) (d : Nat) (x : Ln) : Prop where
  own : (0 ≤ x.rt ∧ x.rt < 8) ∧ (0 ≤ x.lf ∧ x.lf < 8)
  at_ : aN pg x.e.1 = true ∧ (bH pg x.e.1).1 = x.e.2.1
  al : ∀ k, jn k = true → e8 x.e.2.2 (iu k) = true → eX pg x.e.1 k = 0
  r : 0 ≤ x.e.2.2 ∧ x.e.2.2 < 16
  wk : Nat.testBit d x.rt.toNat = false → Nat.testBit d x.lf.toNat = false → ∀ va, va < 16384 → ((va / 64 : Nat) : Int) = x.k.2 → WkOkM fr pg x.k.1 va ∧ x.k.1 = x.rt ∧ eN fr pg va x.k.1 = x.lf ∧ (ci fr pg x.k.1 va).on = true ∧ (ci fr pg x.k.1 va).p = x.e.1 ∧ ∀ c, c = 1 ∨ c = 2 ∨ c = 4 ∨ c = 8 → e8 x.e.2.2 c = true → e8 (ci fr pg x.k.1 va).r c = true
theorem a1W {pg pg' n} (b : aN pg n = true) (a : aN pg' n = true) (c : bH pg' n = bH pg n) k : eX pg' n k = eX pg n k := by
 grind [bH, eX]
theorem LOk.move {fr fr' pg pg' d d' x} (h : LOk fr pg d x) (l : aN pg' x.e.1 = true) (m : bH pg' x.e.1 = bH pg x.e.1)
    (n : ∀ t, t = x.rt ∨ t = x.lf → Nat.testBit d' t.toNat = false → Nat.testBit d t.toNat = false ∧ (aN pg t = true → yt fr pg fr' pg' t)) : LOk fr' pg' d' x := by
 refine ⟨h.own, ⟨l, by rw [m]; exact h.at_.2⟩, fun k b f => ?_, h.r, fun s u o g b => ?_⟩
 rw [a1W h.at_.1 l m]; exact h.al k b f
 obtain ⟨v, w⟩ := n x.rt (.inl rfl) s
 obtain ⟨y, z⟩ := n x.lf (.inr rfl) u
 obtain ⟨a, i, j, A, B, C⟩ := h.wk v y o g b
 have e := a1U a (by rw [i]; exact w (by rw [← i]; exact EV (Bj.1 a.rb).1)) (by rw [j]; exact z (by rw [← j]; exact EV a.lt))
 have p : (ci fr' pg' x.k.1 o).fault = 0 := by rw [e, a.eq]
 refine ⟨Bl p, i, ?_, by rw [e]; exact A, by rw [e]; exact B, fun c D f => by rw [e]; exact C c D f⟩
 have q := (Bl p).eq
 rw [e, a.eq] at q
 have := Qah WS.leaf q
 rw [← j]; exact this.symm
theorem LOk.clean {fr pg d x} (h : LOk fr pg d x) (a : ∀ n ∈ jp d 12, x.thr n = false) : LOk fr pg 0 x := by
 refine ⟨h.own, h.at_, h.al, h.r, fun _ _ => h.wk ?_ ?_⟩
 rw [← Qau]; intro q
 have := a x.rt.toNat (by rw [jp, QaD, QbD]; exact ⟨by have := h.own; omega, q⟩)
 rw [← Qau, tq] at this
 exact this (.inl (by have := h.own; omega))
 rw [← Qau]; intro q
 have := a x.lf.toNat (by rw [jp, QaD, QbD]; exact ⟨by have := h.own; omega, q⟩)
 rw [← Qau, tq] at this
 exact this (.inr (by have := h.own; omega))
theorem LOk.nar {fr pg d x} (h : LOk fr pg d x) : LOk fr pg d x.nar := by
 have m : ∀ c, c = 1 ∨ c = 2 ∨ c = 4 ∨ c = 8 → e8 x.nar.e.2.2 c = true → e8 x.e.2.2 c = true := fun c a b => by
  obtain ⟨n, g⟩ : ∃ n : Nat, x.e.2.2 = (n : Int) := ⟨x.e.2.2.toNat, by have := h.r; omega⟩
  have i : n < 16 := by have := h.r; omega
  have o : x.nar.e.2.2 = ig x.e.2.2 := rfl
  rw [o, g] at b
  rw [g]
  have j : ∀ n : Nat, n < 16 → ∀ c : Int, c = 1 ∨ c = 2 ∨ c = 4 ∨ c = 8 → e8 (ig (n : Int)) c = true → e8 (n : Int) c = true := by
   intro n g c a
   have : n = 0 ∨ n = 1 ∨ n = 2 ∨ n = 3 ∨ n = 4 ∨ n = 5 ∨ n = 6 ∨ n = 7 ∨ n = 8 ∨ n = 9 ∨ n = 10 ∨ n = 11 ∨ n = 12 ∨ n = 13 ∨ n = 14 ∨ n = 15 := by omega
   rcases this with rfl | rfl | rfl | rfl | rfl | rfl | rfl | rfl | rfl | rfl | rfl | rfl | rfl | rfl | rfl | rfl <;> rcases a with rfl | rfl | rfl | rfl <;> decide
  exact j n i c a b
 refine ⟨h.own, h.at_, fun k f b => h.al k f (m _ ?_ b), ?_, fun p q s l f => ?_⟩
 unfold iu
 have := Qar f
 rcases this with rfl | rfl | rfl
 omega
 omega
 omega
 show 0 ≤ ig x.e.2.2 ∧ ig x.e.2.2 < 16
 have := h.r
 unfold ig; split
 rename_i t
 have := Qar t
 omega
 exact h.r
 obtain ⟨u, v, w, y, z, A⟩ := h.wk p q s l f
 exact ⟨u, v, w, y, z, fun c a b => A c a (m c a b)⟩
structure PlOk (n : Nat) (pg : List Pl) : Prop where
  rng : ∀ t, aN pg t = true → (bH pg t).1 < (n : Int)
  inj : ∀ s t, aN pg s = true → aN pg t = true → (bH pg s).1 = (bH pg t).1 → s = t
structure MOk (fr : List aD) (pg : List Pl) (d : Nat) (L : List Ln) (TL : List It) : Prop where
  F : cz fr
  dl : d < 4096
  P : Pgs pg
  pl : PlOk fr.length pg
  ti : TI L TL
  ln : ∀ x ∈ L, LOk fr pg d x
theorem MOk.save {fr pg d d' L TL} (h : MOk fr pg d L TL) {p} (i : aN pg p = true) off w x (b : d' < 4096)
    (j : ∀ t, Nat.testBit d' t = false → Nat.testBit d t = false) (c : ∀ y ∈ L, ∀ t, t = y.rt ∨ t = y.lf → Nat.testBit d' t.toNat = false → t ≠ p) : MOk (fM fr (bH pg p).1 off w x) pg d' L TL := by
 refine ⟨Ab h.F, b, h.P, by rw [xt]; exact h.pl, h.ti, fun y f => ?_⟩
 have a := h.ln y f
 by_cases k : Nat.testBit d' y.rt.toNat = false ∧ Nat.testBit d' y.lf.toNat = false
 refine a.move a.at_.1 rfl fun t l g => ⟨j _ g, fun _ => ?_⟩
 refine EW xt rfl rfl fun q o s => ?_
 apply a1V
 intro e
 exact c y f t l g (h.pl.inj _ _ q i e)
 refine ⟨a.own, a.at_, a.al, a.r, fun m n => absurd ⟨m, n⟩ k⟩
abbrev cB (pv bt bs : Nat) : Obj := ag [.pointer (some ⟨pv, 0, none⟩), .pointer (some ⟨bt, 0, none⟩), .pointer (some ⟨bs, 0, none⟩)] 153
theorem wx bm pv bt bs : sQ W0 64 [pQ bm] (pt bm (cB pv bt bs) :: R) (.bool false) (pt bm (cB pv bt bs) :: R) := by
 refine am func64 ntmps64 ?_
 refine dk rfl rfl rfl (fun a => ?_) fun a => ?_
 cases a
 refine aw ?_
 exact ac ao
def nG (ks : List dp) (T : List It) : List It := ks.foldl (fun T k => k0 k T) T
theorem KT {a} : ∀ {T : List It} {y : It}, y ∈ nG a T → y ∈ T ∧ y.key ∉ a := by
 induction a with
 | nil => intro T y h; exact ⟨h, by simp⟩
 | cons k a b =>
  intro T y h
  obtain ⟨c, d⟩ := b (T := k0 k T) h
  obtain ⟨e, f⟩ := tj.1 c
  refine ⟨e, fun q => ?_⟩
  rcases QaO.1 q with q | q
  exact f q
  exact d q
theorem EX {ks} : ∀ {T : List It}, (nG ks T).length ≤ T.length := by
 induction ks with
 | nil => intro T; exact Qam _
 | cons k ks a => intro T; exact Qba (a (T := k0 k T)) (B8 k T)
theorem a1X ks k T : nG (ks ++ [k]) T = k0 k (nG ks T) := by simp [nG, List.foldl_append]
theorem KU bm pv bt bs its tr tw now T (r : Rep its now T) (A : T.length ≤ 100) a c ks (C : ks.length ≤ 1000) : sP W0 149 [pQ bm, .slice a ks.length c] (pt bm (cB pv bt bs) :: aU bt (its, [tr, tw, .bool true]) :: osl 51 2 (.slice a ks.length c) (ks.flatMap gW) :: R) (fun v B => v = .tuple #[] ∧ ∃ b, B = pt bm (cB pv bt bs) :: aU bt (b, [tr, tw, .bool true]) :: osl 51 2 (.slice a ks.length c) (ks.flatMap gW) :: R ∧ Rep b now (nG ks T)) := by
 refine am func149 ntmps149 ?_
 refine cW (fun X : Nat × List It => X.1 ≤ ks.length ∧ Rep X.2 now (nG (ks.take X.1) T)) (fun X => [(0, pQ bm), (6, .slice a ks.length c), (7, iQ (ks.length : Nat)), (8, iQ X.1)]) (fun X => pt bm (cB pv bt bs) :: aU bt (X.2, [tr, tw, .bool true]) :: osl 51 2 (.slice a ks.length c) (ks.flatMap gW) :: R) (fun X => ks.length - X.1) (0, its) ?_ ?_
 exact ⟨QaG _, r⟩
 intro ⟨i, d⟩ ⟨s, j⟩
 dsimp only at s j ⊢
 refine aw ?_
 refine ai (fun t => ?_) fun t => ?_
 have e : i < ks.length := by omega
 refine mr (E := 51) (sz := 2) (a := a) (c := c) (n := ks.length) gW ks (fun _ => rfl) (by decide) rfl (fun u => ?_)
 obtain ⟨g, o, l, q⟩ := u.at_ e
 obtain ⟨k, f⟩ : ∃ k, ks[i] = k := ⟨_, rfl⟩
 have w : ks.take (i + 1) = ks.take i ++ [k] := by rw [Qao e, f]
 have x := EX (ks := ks.take i) (T := T)
 rw [f] at q
 refine aw ?_
 refine aa (ek G8 rp rfl l rfl rfl e (by first | exact Qac _ | rfl)) ?_
 refine aa (dj q.weak) ?_
 refine bu fun y => ?_
 refine ar aA ?_
 refine bz [bm, y] 6 fun m => ?_
 refine aj 0 5 m ?_
 refine bQ 5 (ap O5 (EJ bt d tr now (nG (ks.take i) T) k j (by omega) tw)) ?_; clear m
 rintro _ D ⟨rfl, h, p, z⟩
 subst p
 refine ⟨aT, fun m => ?_⟩
 refine aJ ?_
 refine aa bW ?_
 refine bR (i + 1, h) ?_
 grind [a1X]
 refine bU (.inr rfl) .nil ?_
 obtain rfl : i = ks.length := by omega
 rw [Qby] at j
 exact ⟨_, ⟨rfl, d, rfl, j⟩, IO⟩
@[reducible] def asV (bm : Nat) (on : Bool) (root : Int) (user : Bool) (va : Nat) (kind : Int) : List Value := [.pointer (some ⟨bm, 0, none⟩), .bool on, .int .i64 root, .bool user, .int .u32 va, .int .i64 kind]
abbrev iL (bm : Nat) (on : Bool) (root : Int) (user : Bool) (va : Nat) (kind : Int) : Obj := ag (asV bm on root user va kind) 451
def ee (root : Int) (va : Nat) : dp := (root, ((va / 64 : Nat) : Int))
theorem s0 ba bm on root user va (b : va < 4294967296) kind : sQ W0 378 [pQ ba] (pt ba (iL bm on root user va kind) :: R) (.agg (gW (ee root va)).toArray) (pt ba (iL bm on root user va kind) :: R) := by
 refine am func378 ntmps378 ?_
 refine bu fun c => ?_
 refine bz [ba] 13 fun a => ?_
 refine aj 0 9 a ?_
 refine az 9 a (ng rfl rfl (by decide) ((Qah (IntKind.wrap .u32) (qq va 64)).trans (cZ (by omega)))) ?_
 refine az 10 a (bG (cj (by omega))) ?_
 refine aj 11 1 a ?_
 refine cm 12 aA fun a => ?_
 refine aJ ?_
 exact aV (.cons (b0 C6 rp rfl rfl) .nil) ao
def pf (e : jH) (kind : Int) (user : Bool) : Bool := jn kind && (e8 e.2.2 (iu kind) && (!user || e8 e.2.2 8)) && true
theorem KV ba bm on root user va kind (e : jH) : sQ W0 379 [pQ ba, .agg (mN e).toArray] (pt ba (iL bm on root user va kind) :: R) (.bool (pf e kind user)) (pt ba (iL bm on root user va kind) :: R) := by
 refine am func379 ntmps379 ?_
 refine bB fun b => ?_
 refine bz [b, ba] 16 fun a => ?_
 refine aj 0 14 a ?_
 refine bY 14 (aB call376 (HS true e.2.2 e.1 kind user)) fun a => ?_
 refine aj 15 1 a ?_
 refine aJ ?_
 exact ac ao
@[reducible] def KW (p f : Int) (o : Nat) (fast : Bool) : List Value := [.int .i64 p, .int .i64 f, .int .i64 (o : Nat), .bool fast]
theorem KX ba bm on root user va (b : va < 4294967296) kind (e : jH) fast : sQ W0 380 [pQ ba, .agg (mN e).toArray, .bool fast] (pt ba (iL bm on root user va kind) :: R) (.agg (KW e.1 e.2.1 (va % 64) fast).toArray) (pt ba (iL bm on root user va kind) :: R) := by
 refine am func380 ntmps380 ?_
 refine bB fun c => ?_
 refine bu fun d => ?_
 refine bz [c, ba] 13 fun a => ?_
 refine aj 0 8 a ?_
 refine az 8 a (eC rfl rfl (IE b)) ?_
 refine az 9 a (bG (cj (by omega))) ?_
 refine aj 10 2 a ?_
 refine cm 12 aA fun a => ?_
 refine aJ ?_
 exact aV (.cons (b0 g8 eU rfl rfl) .nil) ao
theorem KY (l : List Ln) : l.flatMap uK = (l.map Ln.k).flatMap gW := by rw [List.flatMap_map]
theorem MOk.drop {fr pg d L T} (h : MOk fr pg d L T) p : MOk fr pg d (L.filter fun x => !p x) (nG ((L.filter p).map Ln.k) T) :=
  ⟨h.F, h.dl, h.P, h.pl, h.ti.drop p fun y b => by
 obtain ⟨c, f⟩ := KT b
 exact ⟨c, fun x a g e => f (QaX.2 ⟨x, QaD.2 ⟨a, g⟩, e.symm⟩)⟩, fun x a => h.ln x (QaD.1 a).1⟩
theorem MOk.clean {fr pg d L T} (h : MOk fr pg d L T) (b : ∀ x ∈ L, ∀ n ∈ jp d 12, x.thr n = false) : MOk fr pg 0 L T :=
  ⟨h.F, by decide, h.P, h.pl, h.ti, fun x a => (h.ln x a).clean (b x a)⟩
theorem a1Z l : vT l = l.flatMap fun n => [xA n] := by
 induction l with
 | nil => rfl
 | cons n l a => rw [Qbc, ← a]; rfl
theorem KZ bm pv bt bs ps pm d its tr tw now room T L (hR : Rep its now T) (hT : T.length ≤ room) (hr : room ≤ 4) (hd : d < 4096) (I : List Ln → List It → Prop) (hIl : ∀ L T, I L T → L.length ≤ 1000) (hId : ∀ L T p, I L T → I (L.filter fun x => !p x) (nG ((L.filter p).map Ln.k) T)) (h : I L T) : sP W0 65 [pQ bm] (pt bm (cB pv bt bs) :: aU bt (its, [tr, tw, .bool true]) :: bJ bs L :: pt pv (cg ps pm d) :: R) (fun v B => v = .tuple #[] ∧ ∃ its' T' L', B = pt bm (cB pv bt bs) :: aU bt (its', [tr, tw, .bool true]) :: bJ bs L' :: pt pv (cg ps pm 0) :: R ∧ Rep its' now T' ∧ T'.length ≤ room ∧ I L' T' ∧ (∀ x ∈ L', ∀ n ∈ jp d 12, x.thr n = false) ∧ (∀ x ∈ L', x ∈ L) ∧ (jp d 12 = [] → L' = L)) := by
 obtain ⟨ds, hds⟩ : ∃ l, jp d 12 = l := ⟨_, rfl⟩
 have hdl : ds.length ≤ 12 := by grind [Ip]
 refine am func65 ntmps65 ?_
 refine aF rfl (ap call78 (Iq pv ps pm d hd)) ?_
 rintro _ B_ ⟨ad, cd, rfl, hB_⟩
 subst hB_
 rw [hds]
 refine aw ?_
 refine cW (fun X : Nat × List It × List It × List Ln => X.1 ≤ ds.length ∧ Rep X.2.1 now X.2.2.1 ∧ X.2.2.1.length ≤ room ∧ I X.2.2.2 X.2.2.1 ∧ (∀ x ∈ X.2.2.2, ∀ n ∈ ds.take X.1, x.thr ((n : Nat) : Int) = false) ∧ (∀ x ∈ X.2.2.2, x ∈ L) ∧ (X.1 = 0 → X.2.2.2 = L)) (fun X => [(0, pQ bm), (8, .slice ad ds.length cd), (9, iQ (ds.length : Nat)), (10, iQ X.1)]) (fun X => pt bm (cB pv bt bs) :: aU bt (X.2.1, [tr, tw, .bool true]) :: bJ bs X.2.2.2 :: pt pv (cg ps pm 0) :: osl 3 1 (.slice ad ds.length cd) (vT ds) :: R) (fun X => ds.length - X.1) (0, its, T, L) ?_ ?_
 grind
 intro ⟨i, its1, T1, L1⟩ ⟨hi, hR1, hT1, h1, hc1, hs1, hz1⟩
 dsimp only at hi hR1 hT1 h1 hc1 hs1 hz1 ⊢
 refine aw ?_
 refine ai (fun c1 => ?_) fun c1 => ?_
 have hi1 : i < ds.length := by omega
 refine mr (E := 3) (sz := 1) (a := ad) (c := cd) (n := ds.length) (fun n => [xA n]) ds (fun _ => rfl) (by decide) (a1Z ds) (fun hs => ?_)
 obtain ⟨g, o, hga, hc⟩ := hs.at_ hi1
 obtain ⟨q, hq⟩ : ∃ q, ds[i] = q := ⟨_, rfl⟩
 have htk : ds.take (i + 1) = ds.take i ++ [q] := by rw [Qao hi1, hq]
 have hll := hIl L1 T1 h1
 obtain ⟨ks, hks⟩ : ∃ ks, (L1.filter fun x => x.thr (q : Int)).map Ln.k = ks := ⟨_, rfl⟩
 have hkl : (L1.filter fun x => x.thr (q : Int)).length = ks.length := by grind
 have hkn : ks.length ≤ 1000 := by grind
 have hdr := hId L1 T1 (fun x => x.thr (q : Int)) h1
 rw [hks] at hdr
 rw [hq] at hc
 refine aw ?_
 refine aa (ek eJ aS rfl hga rfl rfl hi1 (by first | exact Qac _ | rfl)) ?_
 refine aa (aE (bE.weak hc 0 _ rfl)) ?_
 refine aF rfl (ap call150 (a1u bs L1 (by omega) (q : Int))) ?_
 rintro _ B_ ⟨aw, cw, rfl, hB_⟩
 subst hB_
 rw [KY, hks, hkl]
 refine aF rfl (cN call149 (KU bm pv bt bs its1 tr tw now T1 hR1 (by omega) aw cw ks hkn)) ?_
 rintro _ B_ ⟨rfl, its2, hB_, hR2⟩
 subst hB_
 refine au 4 ?_
 refine aa bW ?_
 refine bR (i + 1, its2, nG ks T1, L1.filter fun x => !x.thr (q : Int)) ?_
 grind [Qba, EX]
 refine bU (.inr rfl) .nil ?_
 obtain rfl : i = ds.length := by omega
 rw [Qby] at hc1
 exact ⟨_, ⟨rfl, its1, T1, L1, rfl, hR1, hT1, h1, hc1, hs1, fun q => hz1 (by rw [q]; rfl)⟩, IO⟩
theorem EY bm pv bt bs ps pm d its tr tw now room T L fr pg (f : Rep its now T) (g : T.length ≤ room) (i : room ≤ 4) (h : MOk fr pg d L T) : sP W0 65 [pQ bm] (pt bm (cB pv bt bs) :: aU bt (its, [tr, tw, .bool true]) :: bJ bs L :: pt pv (cg ps pm d) :: R) (fun v B => v = .tuple #[] ∧ ∃ a e c, B = pt bm (cB pv bt bs) :: aU bt (a, [tr, tw, .bool true]) :: bJ bs c :: pt pv (cg ps pm 0) :: R ∧ Rep a now e ∧ e.length ≤ room ∧ MOk fr pg 0 c e ∧ (∀ x ∈ c, x ∈ L) ∧ (jp d 12 = [] → c = L)) :=
  gQ (KZ bm pv bt bs ps pm d its tr tw now room T L f g i h.dl (MOk fr pg d) (fun L T h => Qba h.ti.len (by decide)) (fun L T p h => h.drop p) h) fun v B j => by
 obtain ⟨rfl, b, k, l, rfl, m, n, o, q, r⟩ := j
 exact ⟨_, ⟨rfl, b, k, l, rfl, m, n, o.clean q, r⟩, ent_refl⟩
def tx : Option Ln → jH
 | none => (0, 0, 0)
 | some x => x.e
theorem tz k L : yq k L = .tuple #[.agg (mN (tx (kU k L))).toArray, .bool (kU k L).isSome] := by
 unfold yq
 cases kU k L <;> rfl
theorem TI.sub' {L T T'} (h : TI L T) (a : ∀ y ∈ T', y ∈ T) : TI L T' := ⟨h.keys, h.len, h.nowr, fun y b => h.sub y (a y b)⟩
theorem a16 bm pv bt bs its tr tw now room T L (N : Rep its now T) (Z : T.length ≤ room) (hr : room ≤ 4) (hl : L.length ≤ 32) : sP W0 425 [pQ bm] (pt bm (cB pv bt bs) :: aU bt (its, [tr, tw, .bool true]) :: bJ bs L :: R) (fun v B => v = .tuple #[] ∧ ∃ m F, B = pt bm (cB pv bt bs) :: aU bt (m, [tr, tw, .bool true]) :: bJ bs L :: R ∧ Rep m now F ∧ F.length ≤ room ∧ ∀ y ∈ F, y ∈ T ∧ (kU y.key L).isSome = true) := by
 refine am func425 ntmps425 ?_
 refine aF rfl (ap call67 (KH bt its tr tw now T N (by omega))) ?_
 rintro _ D ⟨u, w, rfl, d⟩
 subst d
 refine aw ?_
 refine cW (fun X : Nat × List It × List It => X.1 ≤ T.length ∧ Rep X.2.1 now X.2.2 ∧ X.2.2.length ≤ room ∧ ∀ y ∈ X.2.2, y ∈ T ∧ (y ∈ T.take X.1 → (kU y.key L).isSome = true)) (fun X => [(0, pQ bm), (10, .slice u T.length w), (11, iQ (T.length : Nat)), (12, iQ X.1)]) (fun X => pt bm (cB pv bt bs) :: aU bt (X.2.1, [tr, tw, .bool true]) :: bJ bs L :: osl 53 5 (.slice u T.length w) (T.flatMap qS) :: R) (fun X => T.length - X.1) (0, its, T) ?_ ?_
 grind
 intro ⟨i, e, p⟩ ⟨O, h, j, r⟩
 dsimp only at O h j r ⊢
 refine aw ?_
 refine aC rfl (fun P => ?_) fun P => ?_
 refine au 2 ?_
 refine cy (fun X : List It × List It => Rep X.1 now X.2 ∧ X.2.length ≤ room ∧ ∀ y ∈ X.2, y ∈ T ∧ (y ∈ T.take (i + 1) → (kU y.key L).isSome = true)) (fun X => [(0, pQ bm), (10, .slice u T.length w), (11, iQ (T.length : Nat)), (12, iQ i)]) (fun X => pt bm (cB pv bt bs) :: aU bt (X.1, [tr, tw, .bool true]) :: bJ bs L :: osl 53 5 (.slice u T.length w) (T.flatMap qS) :: R) ?_ ?_
 refine au 2 ?_
 have s : i < T.length := by omega
 refine mr (E := 53) (sz := 5) (a := u) (c := w) (n := T.length) qS T ET (by decide) rfl (fun Q => ?_)
 obtain ⟨g, o, G, K⟩ := Q.at_ s
 obtain ⟨x, M⟩ : ∃ x, T[i] = x := ⟨_, rfl⟩
 have A : T.take (i + 1) = T.take i ++ [x] := by rw [Qao s, M]
 rw [M] at K
 obtain ⟨gt, C⟩ : ∃ o, kU x.key L = o := ⟨_, rfl⟩
 refine aw ?_
 refine aa (ek qe mi rfl G rfl rfl s (by first | exact Qac _ | rfl)) ?_
 refine aa (dj K.weak) ?_
 refine bu fun H => ?_
 refine ar aA ?_
 refine bz [bm, H] 13 fun b => ?_
 refine aj 0 5 b ?_
 refine az 5 b (dj (yp (us := gW x.key) (ws := [iQ x.ep, iQ x.ef, iQ x.er]) (jR (k := 1) rfl) rfl)) ?_
 refine eD (is := [6, 10]) (by kernel_rfl) rfl ⟨?_, ?_, trivial⟩
 refine cX (ap vg (tu bs L (by omega) x.key)) ?_; clear b
 rintro _ D ⟨rfl, d⟩
 subst d
 rw [tz, C]
 refine ⟨aT, fun b => ?_⟩
 refine aj 7 3 b ?_
 refine bQ 10 (di oE) ?_; clear b
 rintro _ _ ⟨S, rfl, rfl⟩
 refine ⟨aT, fun b => ?_⟩
 refine cm 11 aA fun b => ?_
 refine aj 12 1 b ?_
 refine aJ ?_
 refine ai (fun I => ?_) fun I => ?_
 refine bz [bm, H] 7 fun b => ?_
 refine aj 0 5 b ?_
 refine az 5 b (dj (yp (us := gW x.key) (ws := [iQ x.ep, iQ x.ef, iQ x.er]) (jR (k := 1) rfl) rfl)) ?_
 refine bQ 6 (ap O5 (EJ bt e tr now p x.key h (by omega) tw)) ?_; clear b
 rintro _ D ⟨rfl, f, d, l⟩
 subst d
 refine ⟨aT, fun b => ?_⟩
 refine aJ ?_
 refine bq (f, k0 x.key p) ?_
 refine ⟨l, Qba (B8 _ _) j, fun y t => ?_⟩
 obtain ⟨J, U⟩ := tj.1 t
 refine ⟨(r y J).1, fun q => ?_⟩
 rw [A] at q
 rcases QaS.1 q with z | z
 grind
 grind
 refine bq (e, p) ?_
 grind
 skip
 refine cX (di oE) ?_; clear b
 rintro _ _ ⟨S, rfl, rfl⟩
 refine ⟨aT, fun b => ?_⟩
 refine bQ 6 (ap vg (tu bs L (by omega) x.key)) ?_; clear b
 rintro _ D ⟨rfl, d⟩
 subst d
 rw [tz, C]
 refine ⟨aT, fun b => ?_⟩
 refine aj 7 3 b ?_
 refine cm 11 aA fun b => ?_
 refine aj 12 1 b ?_
 refine aJ ?_
 refine ai (fun I => ?_) fun I => ?_
 refine bz [bm, H] 7 fun b => ?_
 refine aj 0 5 b ?_
 refine az 5 b (dj (yp (us := gW x.key) (ws := [iQ x.ep, iQ x.ef, iQ x.er]) (jR (k := 1) rfl) rfl)) ?_
 refine bQ 6 (ap O5 (EJ bt e tr now p x.key h (by omega) tw)) ?_; clear b
 rintro _ D ⟨rfl, f, d, l⟩
 subst d
 refine ⟨aT, fun b => ?_⟩
 refine aJ ?_
 refine bq (f, k0 x.key p) ?_
 refine ⟨l, Qba (B8 _ _) j, fun y t => ?_⟩
 obtain ⟨J, U⟩ := tj.1 t
 refine ⟨(r y J).1, fun q => ?_⟩
 rw [A] at q
 rcases QaS.1 q with z | z
 grind
 grind
 refine bq (e, p) ?_
 grind
 intro ⟨f, V⟩ ⟨l, W, Y⟩
 refine aw ?_
 refine aa bW ?_
 refine bR (i + 1, f, V) ?_
 grind
 refine aw ?_
 refine bU (.inr rfl) .nil ?_
 obtain rfl : i = T.length := by omega
 rw [Qby] at r
 exact ⟨_, ⟨rfl, e, p, rfl, h, j, fun y t => ⟨(r y t).1, (r y t).2 (r y t).1⟩⟩, IO⟩
def yu : Option It → jH
 | none => (0, 0, 0)
 | some y => y.ent
theorem EZ k T : yl k T = .tuple #[.agg (mN (yu (nE k T))).toArray, .bool (nE k T).isSome] := by
 unfold yl
 cases nE k T <;> rfl
def oP : Option Ln → Int
 | none => 0
 | some x => x.e.1
def oF : Option Ln → Int
 | none => 0
 | some x => x.e.2.1
def oO (o : Option Ln) (va : Nat) : Nat := match o with
 | none => 0
 | some _ => va % 64
@[reducible] def F0 (o : Option Ln) (va : Nat) : List Value := [.int .i64 (oP o), .int .i64 (oF o), .int .i64 (oO o va : Nat), .bool o.isSome]
def F1 (L : List Ln) (k : dp) (kind : Int) (user : Bool) (o : Option Ln) : Prop := ∀ x, o = some x → x ∈ L ∧ x.k = k ∧ pf x.e kind user = true
theorem a17 ba bm pv bt bs on root user va (j : va < 4294967296) kind its room now T L (t : Rep its now T) (n : T.length ≤ room) (u : room ≤ 4) (w : now < 1000000) (D : TI L T) : sP W0 332 [pQ ba] (pt ba (iL bm on root user va kind) :: pt bm (cB pv bt bs) :: aU bt (its, cT room now) :: bJ bs L :: R) (fun v B => ∃ o i A h, v = .tuple #[.agg (F0 o va).toArray, .bool o.isSome] ∧ F1 L (ee root va) kind user o ∧ Rep i h A ∧ A.length ≤ room ∧ TI L A ∧ h ≤ now + 1 ∧ B = pt ba (iL bm on root user va kind) :: pt bm (cB pv bt bs) :: aU bt (i, cT room h) :: bJ bs L :: R) := by
 obtain ⟨y, s⟩ : ∃ y, nE (ee root va) T = y := ⟨_, rfl⟩
 have l := a0J (now := now) (k := ee root va) (L := T)
 have m := D.getT now (ee root va)
 refine am func332 ntmps332 ?_
 refine eH (di tV) fun E => ?_
 refine au 3 ?_
 refine cy (fun X : Nat × List It × Nat => X.2.2 ≤ now + 1 ∧ Rep X.2.1 X.2.2 (tp now (ee root va) T)) (fun X => [(0, pQ ba), (2, pQ E), (4, .pointer (some ⟨X.1, 0, none⟩)), (5, .bool y.isSome)]) (fun X => pt E (ag [iQ 0, iQ 0, iQ 0, .bool false] 238) :: pt X.1 (ag (mN (yu y)) 49) :: pt ba (iL bm on root user va kind) :: pt bm (cB pv bt bs) :: aU bt (X.2.1, cT room X.2.2) :: bJ bs L :: R) ?_ ?_
 refine bz [ba, bm] 16 fun c => ?_
 refine aj 0 8 c ?_
 refine eD (is := [8, 13]) (by kernel_rfl) rfl ⟨?_, ?_, trivial⟩
 refine cX (ap tW (s0 ba bm on root user va j kind)) ?_; clear c
 rintro _ C ⟨rfl, g⟩
 obtain rfl := g.symm
 refine ⟨aT, fun c => ?_⟩
 refine eD (is := [9, 13]) (by kernel_rfl) rfl ⟨?_, ?_, trivial⟩
 refine cX (ap O6 (EI bt its room now T (ee root va) t n u w)) ?_; clear c
 rintro _ C ⟨rfl, a, b, d, g, f⟩
 subst g
 rw [EZ, s]
 refine ⟨aT, fun c => ?_⟩
 refine aj 10 3 c ?_
 refine bQ 13 (di oE) ?_; clear c
 rintro _ _ ⟨p, rfl, rfl⟩
 refine ⟨aT, fun c => ?_⟩
 refine cm 14 aA fun c => ?_
 refine aj 15 1 c ?_
 refine aJ ?_
 exact bq (p, a, b) (⟨d, f⟩)
 skip
 refine cX (di oE) ?_; clear c
 rintro _ _ ⟨p, rfl, rfl⟩
 refine ⟨aT, fun c => ?_⟩
 refine bQ 9 (ap O6 (EI bt its room now T (ee root va) t n u w)) ?_; clear c
 rintro _ C ⟨rfl, a, b, d, g, f⟩
 subst g
 rw [EZ, s]
 refine ⟨aT, fun c => ?_⟩
 refine aj 10 3 c ?_
 refine cm 14 aA fun c => ?_
 refine aj 15 1 c ?_
 refine aJ ?_
 exact bq (p, a, b) (⟨d, f⟩)
 skip
 refine cX (di oE) ?_; clear c
 rintro _ _ ⟨p, rfl, rfl⟩
 refine ⟨aT, fun c => ?_⟩
 refine bY 8 (ap tW (s0 ba bm on root user va j kind)) fun c => ?_
 refine bQ 9 (ap O6 (EI bt its room now T (ee root va) t n u w)) ?_; clear c
 rintro _ C ⟨rfl, a, b, d, g, f⟩
 subst g
 rw [EZ, s]
 refine ⟨aT, fun c => ?_⟩
 refine aj 10 3 c ?_
 refine cm 14 aA fun c => ?_
 refine aj 15 1 c ?_
 refine aJ ?_
 exact bq (p, a, b) (⟨d, f⟩)
 intro ⟨p, a, b⟩ ⟨d, f⟩
 dsimp only at d f ⊢
 refine aw ?_
 refine cn (fun r => ?_) fun r => ?_
 refine ar aA ?_
 refine aV (.cons (b0 g8 eU rfl rfl) (.cons (aR rfl) .nil)) ?_
 exact ⟨_, ⟨none, a, _, b, rfl, fun x q => (by cases q), f, Qba l n, m, d, rfl⟩, IO⟩
 refine ah (ap call379 (KV ba bm on root user va kind (yu y))) ?_
 refine ai (fun F => ?_) fun F => ?_
 refine ar aA ?_
 refine aV (.cons (b0 g8 eU rfl rfl) (.cons (aR rfl) .nil)) ?_
 exact ⟨_, ⟨none, a, _, b, rfl, fun x q => (by cases q), f, Qba l n, m, d, rfl⟩, IO⟩
 refine ah (ap call380 (KX ba bm on root user va j kind (yu y) true)) ?_
 refine ar aA ?_
 refine aV (.cons (b0 g8 eU rfl rfl) (.cons (aR rfl) .nil)) ?_
 obtain ⟨z, rfl⟩ : ∃ z, y = some z := by cases y <;> simp_all
 have I : pf z.ent kind user = true := by simp_all [yu]
 obtain ⟨G, J⟩ := B7 s
 obtain ⟨x, K, M, H⟩ := D.sub z G
 refine ⟨_, ⟨some x, a, _, b, ?_, fun N q => ?_, f, Qba l n, m, d, rfl⟩, IO⟩
 show _ = Value.tuple #[.agg (KW x.e.1 x.e.2.1 (va % 64) true).toArray, .bool true]
 rw [H]; rfl
 grind
theorem a18 ba bm pv bt bs on root user va (f : va < 4294967296) kind its room now T L (t : Rep its now T) (r : T.length ≤ room) (F : room ≤ 4) (G : now < 1000000) (h : TI L T) : sP W0 333 [pQ ba] (pt ba (iL bm on root user va kind) :: pt bm (cB pv bt bs) :: aU bt (its, cT room now) :: bJ bs L :: R) (fun v B => ∃ o g u d, v = .tuple #[.agg (F0 o va).toArray, .bool o.isSome] ∧ F1 L (ee root va) kind user o ∧ (o = none → ∀ x ∈ L, x.k = ee root va → pf x.e kind user = false) ∧ Rep g d u ∧ u.length ≤ room ∧ TI L u ∧ d ≤ now + 1 ∧ B = pt ba (iL bm on root user va kind) :: pt bm (cB pv bt bs) :: aU bt (g, cT room d) :: bJ bs L :: R) := by
 obtain ⟨y, i⟩ : ∃ y, kU (ee root va) L = y := ⟨_, rfl⟩
 have H := h.len
 refine am func333 ntmps333 ?_
 refine eH (di tV) fun C => ?_
 refine au 3 ?_
 refine cy (fun c : Nat => True) (fun c => [(0, pQ ba), (2, pQ C), (4, pQ c), (5, .bool y.isSome)]) (fun c => pt C (ag [iQ 0, iQ 0, iQ 0, .bool false] 238) :: pt c (ag (mN (tx y)) 49) :: pt ba (iL bm on root user va kind) :: pt bm (cB pv bt bs) :: aU bt (its, cT room now) :: bJ bs L :: R) ?_ ?_
 refine bz [ba, bm] 16 fun a => ?_
 refine aj 0 8 a ?_
 refine eD (is := [8, 13]) (by kernel_rfl) rfl ⟨?_, ?_, trivial⟩
 refine cX (ap tW (s0 ba bm on root user va f kind)) ?_; clear a
 rintro _ s ⟨rfl, b⟩
 obtain rfl := b.symm
 refine ⟨aT, fun a => ?_⟩
 refine eD (is := [9, 13]) (by kernel_rfl) rfl ⟨?_, ?_, trivial⟩
 refine cX (ap vg (tu bs L (by omega) (ee root va))) ?_; clear a
 rintro _ s ⟨rfl, b⟩
 subst b
 rw [tz, i]
 refine ⟨aT, fun a => ?_⟩
 refine aj 10 3 a ?_
 refine bQ 13 (di oE) ?_; clear a
 rintro _ _ ⟨c, rfl, rfl⟩
 refine ⟨aT, fun a => ?_⟩
 refine cm 14 aA fun a => ?_
 refine aj 15 1 a ?_
 refine aJ ?_
 exact bq c trivial
 skip
 refine cX (di oE) ?_; clear a
 rintro _ _ ⟨c, rfl, rfl⟩
 refine ⟨aT, fun a => ?_⟩
 refine bQ 9 (ap vg (tu bs L (by omega) (ee root va))) ?_; clear a
 rintro _ s ⟨rfl, b⟩
 subst b
 rw [tz, i]
 refine ⟨aT, fun a => ?_⟩
 refine aj 10 3 a ?_
 refine cm 14 aA fun a => ?_
 refine aj 15 1 a ?_
 refine aJ ?_
 exact bq c trivial
 skip
 refine cX (di oE) ?_; clear a
 rintro _ _ ⟨c, rfl, rfl⟩
 refine ⟨aT, fun a => ?_⟩
 refine bY 8 (ap tW (s0 ba bm on root user va f kind)) fun a => ?_
 refine bQ 9 (ap vg (tu bs L (by omega) (ee root va))) ?_; clear a
 rintro _ s ⟨rfl, b⟩
 subst b
 rw [tz, i]
 refine ⟨aT, fun a => ?_⟩
 refine aj 10 3 a ?_
 refine cm 14 aA fun a => ?_
 refine aj 15 1 a ?_
 refine aJ ?_
 exact bq c trivial
 intro c _
 refine aw ?_
 refine cn (fun j => ?_) fun j => ?_
 refine ar aA ?_
 refine aV (.cons (b0 g8 eU rfl rfl) (.cons (aR rfl) .nil)) ?_
 exact ⟨_, ⟨none, its, T, now, rfl, fun x q => (by cases q), fun _ x w z => (by
   have l := EP h.keys w
   rw [z, i] at l
   subst l
   simp_all [tx]), t, r, h, by omega, rfl⟩, IO⟩
 refine ah (ap call379 (KV ba bm on root user va kind (tx y))) ?_
 refine ai (fun I => ?_) fun I => ?_
 refine ar aA ?_
 refine aV (.cons (b0 g8 eU rfl rfl) (.cons (aR rfl) .nil)) ?_
 exact ⟨_, ⟨none, its, T, now, rfl, fun x q => (by cases q), fun _ x w z => (by
   have l := EP h.keys w
   rw [z, i] at l
   subst l
   simp_all [tx]), t, r, h, by omega, rfl⟩, IO⟩
 obtain ⟨x, rfl⟩ : ∃ x, y = some x := by cases y <;> simp_all
 have J : pf x.e kind user = true := by simp_all [tx]
 obtain ⟨D, E⟩ := Bf i
 have m := h.putT room now D
 have n := K9 (now := now) (k := x.k) (e := x.e) r
 rw [E] at m n
 rw [show tx (some x) = x.e from rfl]
 refine bz [ba, bm, c] 11 fun a => ?_
 refine aj 0 8 a ?_
 refine aj 9 1 a ?_
 refine bY 8 (ap tW (s0 ba bm on root user va f kind)) fun a => ?_
 refine bQ 10 (ap call382 (Ka bt its room now T (ee root va) x.e t r F G)) ?_; clear a
 rintro _ s ⟨rfl, p, b, A⟩
 subst b
 refine ⟨aT, fun a => ?_⟩
 refine aJ ?_
 refine ah (ap call380 (KX ba bm on root user va f kind x.e true)) ?_
 refine ar aA ?_
 refine aV (.cons (b0 g8 eU rfl rfl) (.cons (aR rfl) .nil)) ?_
 refine ⟨_, ⟨some x, p, _, now + 1, rfl, fun K q => ?_, fun q => (by cases q), A, n, m, by omega, rfl⟩, IO⟩
 cases q
 exact ⟨D, E, J⟩
section
variable {P : Program} {S : World → Prop} {N : FSz} {e : bi} {t : TypeId} {x y : Operand}
theorem L0 {E b c j : Nat} {k i cs} {d : List Value} (g : P.underlying t = some (.array b E)) (h : ∀ w, (isAgg E).run P w = .ok true w) (l : ∀ w, (sizeOf E).run P w = .ok c w) (m : ev e x = some (.agg cs)) (n : ev e y = some (.int k i))
    (o : i = j) (r : j < b) (p : cs.extract (j * c) (j * c + c) = d.toArray) : bT P S N e (.index t x y) (.agg d.toArray) := fun a w _ _ _ _ _ f _ => by
 subst o
 have q : (0 : Int) ≤ (j : Int) ∧ (j : Int) < (b : Int) := by omega
 simp only [execOp, Instr.index, Sem.run_bind, f.eval m, f.eval n, asIntOf, Sem.run_pure, Result.andThen_ok, eW g, Qad q, Qaf, l, part, h, p, QbL]
end
def jc : List Value := [.int .i64 0, .int .i64 4, .int .i64 1, .int .i64 1, .int .i64 2, .int .i64 2]
def qV (i : Nat) : Int × Int := if i = 0 then (0, 4) else if i = 1 then (1, 1) else (2, 2)
def ix (pg : List Pl) (r p : Int) : Nat → Int
 | 0 => e6 .i64 r 8
 | i + 1 => if e6 .i64 r (qV i).2 ≠ 0 ∧ eX pg p (qV i).1 = 0 then lD .i64 (ix pg r p i) (qV i).2 else ix pg r p i
theorem L3 (l : ∀ A, bE (aQ W0 A) 1 0 jc) bm pv bt bs ps pm d on r p pg (m : Pgs pg) : sQ W0 422 [pQ bm, .agg #[.bool on, iQ r, iQ p]] (pt bm (cB pv bt bs) :: pt pv (cg ps pm d) :: pt pm (bI pg) :: R) (iQ (ix pg r p 3)) (pt bm (cB pv bt bs) :: pt pv (cg ps pm d) :: pt pm (bI pg) :: R) := by
 refine am func422 ntmps422 ?_
 refine bB fun f => ?_
 refine aa (eC rfl rfl rfl) ?_
 refine aa (dj (l _)) ?_
 refine cW (fun i : Nat => i ≤ 3) (fun i => [(0, pQ bm), (3, pQ f), (5, iQ (ix pg r p i)), (11, .agg jc.toArray), (12, iQ i)]) (fun i => pt f (ag [.bool on, iQ r, iQ p] 416) :: pt bm (cB pv bt bs) :: pt pv (cg ps pm d) :: pt pm (bI pg) :: R) (fun i => 3 - i) 0 ?_ ?_
 omega
 intro i u
 refine aw ?_
 refine aC rfl (fun n => ?_) fun n => ?_
 refine au 2 ?_
 refine cy (fun _ : Unit => True) (fun _ => [(0, pQ bm), (3, pQ f), (5, iQ (ix pg r p (i + 1))), (11, .agg jc.toArray), (12, iQ i)]) (fun _ => pt f (ag [.bool on, iQ r, iQ p] 416) :: pt bm (cB pv bt bs) :: pt pv (cg ps pm d) :: pt pm (bI pg) :: R) ?_ ?_
 refine au 2 ?_
 have h : i < 3 := by omega
 have e : jc.toArray.extract (i * 2) (i * 2 + 2) = ([iQ (qV i).1, iQ (qV i).2] : List Value).toArray := by
  have : i = 0 ∨ i = 1 ∨ i = 2 := by omega
  rcases this with rfl | rfl | rfl <;> rfl
 have a : ix pg r p (i + 1) = if e6 .i64 r (qV i).2 ≠ 0 ∧ eX pg p (qV i).1 = 0 then lD .i64 (ix pg r p i) (qV i).2 else ix pg r p i := rfl
 obtain ⟨⟨k, c⟩, j⟩ : ∃ q, qV i = q := ⟨_, rfl⟩
 rw [j] at e a
 dsimp only at e a
 refine aw ?_
 refine aa (L0 a7S isAgg527 sizeOf527 rfl rfl rfl h e) ?_
 refine bu fun o => ?_
 refine ar aA ?_
 refine bz [f, o, bm] 19 fun b => ?_
 refine aj 0 4 b ?_
 refine az 4 b (eC rfl rfl rfl) ?_
 refine aj 5 2 b ?_
 refine mp (t := 21) rfl ?_ ?_
 intro g
 refine aj 7 4 b ?_
 refine aj 12 4 b ?_
 refine bY 11 (ap nT (rL pv ps pm d)) fun b => ?_
 refine bY 16 (ap call198 (I8 pm pg m p k)) fun b => ?_
 refine aj 17 2 b ?_
 refine aJ ?_
 refine ai (fun s => ?_) fun s => ?_
 refine aa (mo rfl rfl rfl) ?_
 refine df () ?_ ?_ ?_
 trivial
 · rw [a, Qad (by omega)]
   repeat (first | exact bK | refine aZ rfl ?_)
 exact IO
 refine df () ?_ ?_ ?_
 trivial
 · rw [a, Qaa (by omega)]
   repeat (first | exact bK | refine aZ rfl ?_)
 exact IO
 intro g
 refine aj 7 12 b ?_
 refine aJ ?_
 refine df () ?_ ?_ ?_
 trivial
 · rw [a, Qaa (by omega)]
   repeat (first | exact bK | refine aZ rfl ?_)
 exact IO
 intro _ _
 refine aw ?_
 refine aa bW ?_
 exact bR (i + 1) (by omega)
 refine aw ?_
 refine ac ?_
 obtain rfl : i = 3 := by omega
 exact ao
section
variable {P : Program} {S : World → Prop} {N : FSz} {e : bi} {t : TypeId} {l : List Value} {v : Value}
theorem L5 {E n k : Nat} {ps rs} (o : P.underlying t = some (.array n E)) (p : ∀ w, (sizeOf E).run P w = .ok k w) (q : ∀ w, (zeroValue t).run P w = .ok (.agg l.toArray) w)
    (m : uc k e 0 ps.toList rs) (r : l.length = rs.length * k) : bT P S N e (.build t ps) (.agg rs.flatten.toArray) := fun a w _ _ _ _ _ s _ => by
 have g := D1 (k := k) (fun x v h => s.eval h) ps.toList rs [] l 0 (by simp) m r
 simp only [Qaw] at g
 have u : Instr.build t (ps.map fun (i, x) => (i, a.eval x)) = (do
     let zero := (← zeroValue t).cells
     match ← underlying t with
     | .struct c =>
       let d ← c.mapM sJ
       let some b := Instr.fill (d[·]?) zero (ps.map fun (i, x) => (i, a.eval x)).toList | stuck "build: no such field, or a part of the wrong size"
       pure (.agg b)
     | .array _ j =>
       let f ← sizeOf j
       let some b := Instr.fill (fun i => some (i * f, f)) zero (ps.map fun (i, x) => (i, a.eval x)).toList | stuck "build: a part of the wrong size"
       pure (.agg b)
     | _ => stuck "build: struct or array type expected") := rfl
 simp only [execOp, u, Sem.run_bind, q, eW o, p, Result.andThen_ok, Value.cells, Sem.run_pure, Qci]
 rw [g]; rfl
end
theorem yw n : (((n : Nat) : Int) != 0) = (n != 0) := by
 grind
theorem F2 b rl pc x i (f : rl.length = 16) : sQ W0 131 [pQ b, iQ i, wV x] (pt b (dF rl pc) :: R) (iQ (if gK i then 0 else 1)) (pt b (dF (if gK i then j8 rl i.toNat x else rl) pc) :: R) := by
 by_cases a : gK i = true
 have h : 0 ≤ i ∧ i < 16 := Qar a
 obtain ⟨n, rfl⟩ : ∃ n : Nat, i = (n : Int) := ⟨i.toNat, by omega⟩
 rw [Qad a, Qad a, Qaf]
 by_cases j : n = 0
 subst j
 rw [j8, Qad rfl]
 have c : ∀ R, bF Tryz.prog W0 196 [pQ b, iQ ((0 : Nat) : Int), wV x] (pt b (dF rl pc) :: R) (fun v B => v = .tuple #[] ∧ B = pt b (dF rl pc) :: R) := fun R => by
  refine am func196 ntmps196 ?_
  refine ai (fun g => ?_) fun g => ?_
  exact absurd rfl g
  refine bU (.inr rfl) .nil ?_
  exact ao
 refine jz 12 NV ntmps131 ?_
 refine aC rfl (fun d => ?_) fun d => ?_
 cases d
 refine aw ?_
 refine eh 10 (ap Gy (AV b rl pc f ((0 : Nat) : Int))) ?_
 refine ai (fun e => ?_) fun e => ?_
 refine ah (ap call196 (c _)) ?_
 refine ac ?_
 rw [a]
 exact ao
 exact absurd (by rw [a]; rfl) e
 grind [j8, Ev]
 rw [Qaa a, Qaa a]
 refine jz 12 NV ntmps131 ?_
 refine aC rfl (fun d => ?_) fun d => ?_
 cases d
 refine aw ?_
 refine eh 10 (ap Gy (AV b rl pc f i)) ?_
 refine ai (fun e => ?_) fun e => ?_
 exact absurd e (by rw [Qaa a]; decide)
 refine ac ?_
 rw [Qaa a]
 exact ao
abbrev eg (cs : List Nat) (id : Nat) : Obj := ag (cs.map wV ++ [.int .i64 id, .bool true]) 306
section
variable {cs : List Nat} {id : Nat}
theorem yx (h : CsOk cs) : (cs.map wV ++ [Value.int .i64 id, .bool true]).length = 9 := by simp [h.len]
theorem uN (h : CsOk cs) {n} (a : n < 7) : (cs.map wV ++ [Value.int .i64 id, .bool true])[n * 1]? = some (wV (d9 cs n)) := by
 have : n < cs.length := by rw [h.len]; exact a
 rw [Qaz, QaB (by grind)]
 simp [d9, List.getD, this]
theorem a19 (h : CsOk cs) : (cs.map wV ++ [Value.int .i64 id, .bool true])[8]? = some (.bool true) := by
 rw [Qbn (by rw [Qay, h.len]; decide), Qay, h.len]; rfl
theorem a2a (h : CsOk cs) : (cs.map wV ++ [Value.int .i64 id, .bool true])[7]? = some (iQ id) := by
 rw [Qbn (by rw [Qay, h.len]; decide), Qay, h.len]; rfl
theorem yy (h : cs.length = 7) {n v} (a : n < 7) : (cs.map wV ++ [Value.int .i64 id, .bool true]).set (n * 1) (wV v) = (cs.set n v).map wV ++ [iQ id, .bool true] := by
 simp_all
theorem a2b (h : CsOk cs) : ((cs.map wV ++ [Value.int .i64 id, .bool true]).drop 0).take 7 = cs.map wV := by
 rw [List.drop_zero, List.take_left' (by rw [Qay, h.len])]
theorem wy b (h : CsOk cs) : sQ W0 169 [pV b] (pt b (eg cs id) :: R) (.bool false) (pt b (eg cs id) :: R) := by
 refine am func169 ntmps169 ?_
 refine dk rfl rfl rfl (fun a => ?_) fun a => ?_
 cases a
 refine aw ?_
 refine aa (aE (aI (a19 h))) ?_
 exact ac ao
theorem Bm b (h : CsOk cs) k (a : k < 4294967296) : sQ W0 279 [pV b, wV k] (pt b (eg cs id) :: R) (.bool (kD cs k)) (pt b (eg cs id) :: R) := by
 refine am func279 ntmps279 ?_
 refine aa (fB iO aX rfl rfl (i := 5) rfl (by decide) (by first | exact Qac _ | rfl)) ?_
 refine aa (aE (aI (uN h (n := 5) (by decide)))) ?_
 refine aa (eC rfl rfl (lh (h.at_ 5) a)) ?_
 refine ac ?_
 exact ⟨_, ⟨Qah Value.bool (yw _), rfl⟩, IO⟩
theorem L6 b (h : CsOk cs) : sQ W0 384 [pV b] (pt b (eg cs id) :: R) (iQ (if dR cs then 0 else 4)) (pt b (eg cs id) :: R) := by
 refine am func384 ntmps384 ?_
 refine ah (ap zC (wy b h)) ?_
 refine ah (ap GE (Bm b h 4 (by decide))) ?_
 refine ai (fun a => ?_) fun a => ?_
 refine ac ?_
 rw [dR, Qaa (by simpa using a)]
 exact ao
 refine ac ?_
 rw [dR, Qad (by simpa using a)]
 exact ao
theorem L8 b (h : CsOk cs) (c : id < 4) (n : Nat) (j : n < 9) clock (k : 0 ≤ clock) : sQ W0 338 [pV b, iQ n, iQ clock] (pt b (eg cs id) :: R) (.tuple #[wV (if dR cs then oW cs id clock.toNat n else 0), iQ (if dR cs then 0 else 4)]) (pt b (eg cs id) :: R) := by
 obtain ⟨q, rfl⟩ : ∃ q : Nat, clock = (q : Int) := ⟨clock.toNat, by omega⟩
 rw [Qaf]
 refine am func338 ntmps338 ?_
 refine ah (ap call384 (L6 b h)) ?_
 refine ai (fun d => ?_) fun d => ?_
 refine ax ?_
 have a : dR cs = false := by
  grind
 rw [a]
 exact ao
 have a : dR cs = true := by
  grind
 rw [a]
 refine aC rfl (fun e => ?_) fun e => ?_
 omega
 refine aw ?_
 refine aC rfl (fun f => ?_) fun f => ?_
 omega
 refine aw ?_
 refine ai (fun g => ?_) fun g => ?_
 refine aa (bG (d8 (q : Int))) ?_
 refine ax ?_
 obtain rfl : n = 7 := by omega
 exact ao
 refine ai (fun i => ?_) fun i => ?_
 refine aa (aE (aI (a2a h))) ?_
 refine aa (bG (cZ (by omega))) ?_
 refine ax ?_
 obtain rfl : n = 8 := by omega
 exact ao
 refine aa (eG (by omega)) ?_
 refine aa (aE (aI (uN h (n := n) (by omega)))) ?_
 refine ax ?_
 rw [Qad rfl, oW, Qaa (by omega), Qaa (by omega)]
 exact ao
theorem a2c b (h : CsOk cs) (n v : Nat) (o : n < 9) (i : v < 4294967296) (k : dR cs = true) : sP W0 431 [pV b, iQ n, wV v] (pt b (eg cs id) :: R) (fun r B => r = iQ (if n ≤ 6 then 0 else 1) ∧ B = pt b (eg (if n ≤ 6 then cs.set n (kE n v) else cs) id) :: R) := by
 refine am func431 ntmps431 ?_
 refine ah (ap call384 (L6 b h)) ?_
 rw [k, Qad rfl]
 refine aC rfl (fun j => ?_) fun j => ?_
 exact absurd rfl j
 refine au 2 ?_
 refine cy (fun _ : Unit => n ≤ 6) (fun _ => [(0, pV b), (1, iQ n), (2, wV (kE n v))]) (fun _ => pt b (eg cs id) :: R) ?_ ?_
 refine au 12 ?_
 refine ai (fun l => ?_) fun l => ?_
 refine aa (eC rfl rfl (lh i (by decide))) ?_
 refine df () ?_ ?_ ?_
 omega
 · rw [kE, Qad (by omega)]
   repeat (first | exact bK | refine aZ rfl ?_)
 exact IO
 refine ai (fun m => ?_) fun m => ?_
 refine aa (eC rfl rfl (lh i (by decide))) ?_
 refine df () ?_ ?_ ?_
 omega
 · rw [kE, Qaa (by omega), Qad (by omega)]
   repeat (first | exact bK | refine aZ rfl ?_)
 exact IO
 refine ai (fun c => ?_) fun c => ?_
 refine df () ?_ ?_ ?_
 omega
 · rw [kE, Qaa (by omega), Qaa (by omega)]
   repeat (first | exact bK | refine aZ rfl ?_)
 exact IO
 refine ai (fun d => ?_) fun d => ?_
 refine df () ?_ ?_ ?_
 omega
 · rw [kE, Qaa (by omega), Qaa (by omega)]
   repeat (first | exact bK | refine aZ rfl ?_)
 exact IO
 refine ai (fun e => ?_) fun e => ?_
 refine df () ?_ ?_ ?_
 omega
 · rw [kE, Qaa (by omega), Qaa (by omega)]
   repeat (first | exact bK | refine aZ rfl ?_)
 exact IO
 refine ai (fun f => ?_) fun f => ?_
 refine df () ?_ ?_ ?_
 omega
 · rw [kE, Qaa (by omega), Qaa (by omega)]
   repeat (first | exact bK | refine aZ rfl ?_)
 exact IO
 refine ai (fun g => ?_) fun g => ?_
 refine df () ?_ ?_ ?_
 omega
 · rw [kE, Qaa (by omega), Qaa (by omega)]
   repeat (first | exact bK | refine aZ rfl ?_)
 exact IO
 refine ac ?_
 rw [Qaa (by omega), Qaa (by omega)]
 exact ao
 intro _ a
 rw [Qad a, Qad a]
 refine aw ?_
 refine aa (eG (by omega)) ?_
 refine ar (dt (by rw [yx h]; omega) (yy h.len (by omega))) ?_
 exact ac ao
theorem a2d b (h : CsOk cs) : sQ W0 83 [pV b] (pt b (eg cs id) :: R) (.agg (cs.map wV).toArray) (pt b (eg cs id) :: R) := by
 refine am func83 ntmps83 ?_
 refine bu fun a => ?_
 refine ah (ap zC (wy b h)) ?_
 refine aa (iS NW wP rfl (cQ (b := b) (a2b h) (by rw [Qay, h.len])) (by rw [Qay, h.len])) ?_
 refine ar (gi wP rfl rfl (by rw [Qay, h.len]) (Eu cs) rfl) ?_
 exact aV (.cons (b0 NW wP rfl (by rw [Qay, h.len])) .nil) ao
@[reducible] def qW (cs : List Nat) : List Value := [.bool (i6 cs), .int .i64 (gH cs), .bool (!dR cs)]
theorem yz b (h : CsOk cs) : sQ W0 208 [pV b] (pt b (eg cs id) :: R) (.agg (qW cs).toArray) (pt b (eg cs id) :: R) := by
 have d := h.at_ 0
 have e : d9 cs 0 / 256 < 4294967296 := by omega
 obtain ⟨c, a⟩ : ∃ r, d9 cs 0 / 256 &&& 31 = r := ⟨_, rfl⟩
 have f : c < 4294967296 := by grind [QaI, Qbw]
 refine am func208 ntmps208 ?_
 refine bu fun g => ?_
 refine ah (ap zC (wy b h)) ?_
 refine aa (fB iO aX rfl rfl (i := 0) rfl (by decide) (by first | exact Qac _ | rfl)) ?_
 refine aa (aE (aI (uN h (n := 0) (by decide)))) ?_
 refine aa (eC rfl rfl (lh d (by decide) (b := 1))) ?_
 refine aa (j5 rfl rfl (by decide) (jU (k := .u32) (s := 8) (by decide))) ?_
 refine aa (eC rfl rfl (show _ = ((c : Nat) : Int) by rw [← a]; exact lh e (by decide) (b := 31))) ?_
 refine aa (bG (cj (by omega))) ?_
 refine ah (ap GE (Bm b h 4 (by decide))) ?_
 refine ar aA ?_
 refine aV (.cons (b0 C4 wO rfl rfl) .nil) ?_
 refine aG ?_
 rw [qW, i6, gH, a, dR, ← yw]
 rfl
theorem L9 b (h : CsOk cs) : sQ W0 278 [pV b] (pt b (eg cs id) :: R) (.bool (d9 cs 1 != 0)) (pt b (eg cs id) :: R) := by
 refine am func278 ntmps278 ?_
 refine ah (ap zC (wy b h)) ?_
 refine bN (fun a => ?_) fun a => ?_
 refine aa (fB iO aX rfl rfl (i := 1) rfl (by decide) (by first | exact Qac _ | rfl)) ?_
 refine ae rfl (co pZ rfl (aI (uN h (n := 1) (by decide)))) ?_
 refine cM rfl rfl (ae rfl (oJ rfl rfl) (ae rfl (lR rfl rfl) (ae rfl (bC rfl) (aL (aH (dE (bU (.inl rfl) (.cons (aR rfl) .nil) ?_)))))))
 exact ⟨_, ⟨Qah Value.bool (yw _), rfl⟩, IO⟩
 exact absurd (by decide) a
theorem a2e b (h : CsOk cs) : sQ W0 204 [pV b] (pt b (eg cs id) :: R) (.bool (od cs)) (pt b (eg cs id) :: R) := by
 obtain ⟨z, c⟩ : ∃ z, (d9 cs 1 != 0) = z := ⟨_, rfl⟩
 refine am func204 ntmps204 ?_
 refine ah (ap call278 (L9 b h)) ?_
 rw [c]
 refine bN (fun a => ?_) fun a => ?_
 rw [show od cs = kD cs 1 by rw [od, c, a, Qbe]]
 refine ah (ap GE (Bm b h 1 (by decide))) ?_
 exact ac ao
 rw [show od cs = false by rw [od, c, show z = false by simpa using a, QcR]]
 exact ac ao
def F3 (f0 t0 f1 t1 : Nat) : List Value := [wV f0, wV t0, wV f1, wV t1]
theorem a2f b b3 b6 s f t (h : CsOk cs) (c : f < 4294967296) (d : s < 4294967296) (e : t < 4294967296) : sQ W0 330 [wV f, wV t, pV b3, pV b6] (pt b3 (ag [pV b] 143) :: pt b6 (ag [wV s] 38) :: pt b (eg cs id) :: R) (.tuple #[]) (pt b3 (ag [pV b] 143) :: pt b6 (ag [wV (qC cs s f t)] 38) :: pt b (eg cs id) :: R) := by
 refine am func330 ntmps330 ?_
 refine ah (ap GE (Bm b h f c)) ?_
 refine ai (fun a => ?_) fun a => ?_
 rw [qC, Qad a]
 refine aa (show bT _ _ _ _ _ (wV (s ||| t)) from mo rfl rfl (mt d e)) ?_
 refine ar dX ?_
 refine bU (.inr rfl) .nil ?_
 exact ao
 rw [qC, Qaa a]
 refine bU (.inr rfl) .nil ?_
 exact ao
def wz (cs : List Nat) (s f0 t0 f1 t1 : Nat) : Nat → Nat
 | 0 => s
 | 1 => qC cs s f0 t0
 | _ => oT cs s f0 t0 f1 t1
theorem La W0 R b s f0 t0 f1 t1 (h : CsOk cs) (f : s < 4294967296) (p : f0 < 4294967296) (g : t0 < 4294967296) (q : f1 < 4294967296) (o : t1 < 4294967296) : sQ W0 281 [pV b, wV s, .agg (F3 f0 t0 f1 t1).toArray] (pt b (eg cs id) :: R) (.tuple #[]) (pt b (eg (cs.set 5 (oT cs s f0 t0 f1 t1)) id) :: R) := by
 have j : ∀ k, wz cs s f0 t0 f1 t1 k < 4294967296 := fun k => by
  match k with
  | 0 => exact f
  | 1 => exact DI f g
  | k + 2 => exact DJ f g o
 refine am func281 ntmps281 ?_
 refine dw (jO rfl rfl) fun a => ?_
 refine bB fun v => ?_
 refine dw (rD a7T rfl) fun c => ?_
 refine fh (lU aX rfl rfl rfl (Qab rfl) SetL.eq) ?_
 rintro _ _ rfl
 refine aL (aH (aO (aY (ae rfl (xj rfl rfl) ?_))))
 refine ae rfl (bC rfl) (aL (aH (aO (aO (aY (ae rfl (pE isAgg405 sizeOf405 rfl rfl) ?_))))))
 refine ae rfl (aM rfl) (aL (aH (mm ?_)))
 refine ge (fun k : Nat => k ≤ 2) (fun k => [(3, pV a), (6, pV c), (7, .func (.func 330) #[] #[pV a, pV c]), (12, .agg (F3 f0 t0 f1 t1).toArray), (13, .int .i64 k)]) (fun k => pt a (ag [pV b] 143) :: pt c (ag [wV (wz cs s f0 t0 f1 t1 k)] 38) :: pt b (eg cs id) :: R) (fun k => 2 - k) 0 ?_ ?_ ?_ ?_
 omega
 · repeat (first | exact bK | refine aZ rfl ?_)
 exact (show Ent _ (pt a (ag [pV b] 143) :: pt c (ag [wV s] 38) :: pt b (eg cs id) :: R) from inferInstance)
 intro k w
 refine aw ?_
 refine ai (fun r => ?_) fun r => ?_
 have e : k < 2 := by omega
 obtain ⟨x, y, t, u, l, d⟩ : ∃ x y, x < 4294967296 ∧ y < 4294967296 ∧ ((F3 f0 t0 f1 t1).toArray.extract (k * 2) (k * 2 + 2) = [wV x, wV y].toArray) ∧ qC cs (wz cs s f0 t0 f1 t1 k) x y = wz cs s f0 t0 f1 t1 (k + 1) := by
  match k, e with
  | 0, _ => exact ⟨f0, t0, p, g, rfl, rfl⟩
  | 1, _ => exact ⟨f1, t1, q, o, rfl, rfl⟩
 refine aa (L0 O7 isAgg404 G2 rfl rfl rfl e l) ?_
 refine bu fun z => ?_
 refine ar aA ?_
 refine aa (fB zD aX rfl rfl (i := 0) rfl (by decide) (by first | exact Qac _ | rfl)) ?_
 refine aa (fB zD aX rfl rfl (i := 1) rfl (by decide) (by first | exact Qac _ | rfl)) ?_
 refine ah (kj sV (jm (us := []) (cs := [pV a, pV c]) rfl call330 rfl (a2f b a c (wz cs s f0 t0 f1 t1 k) x y h t (j k) u))) ?_
 rw [d]
 refine aa bW ?_
 exact bR (k + 1) (by omega)
 obtain rfl : k = 2 := by omega
 refine bz [a, c] 6 fun m => ?_
 refine aj 0 4 m ?_
 refine az 4 m (fB iO aX rfl rfl (i := 5) rfl (by decide) (by first | exact Qac _ | rfl)) ?_
 refine cm 5 (dt (by grind [yx]) (yy (n := 5) h.len (by decide))) fun m => ?_
 refine aJ ?_
 refine bU (.inr rfl) .nil ?_
 exact ⟨_, ⟨rfl, rfl⟩, (show Ent _ (pt b (eg (cs.set 5 (wz cs s f0 t0 f1 t1 2)) id) :: R) from inferInstance)⟩
theorem Lb b pc cause tval (h : CsOk cs) (c : pc < 4294967296) (d : cause < 4294967296) (e : tval < 4294967296) : sQ W0 206 [pV b, wV pc, wV cause, wV tval] (pt b (eg cs id) :: R) (.tuple #[wV (d9 cs 1), iQ 0]) (pt b (eg (m4 cs pc cause tval) id) :: R) := by
 have f := h.trap c d e
 have g := h.enter c d e
 have j : d9 (m4 cs pc cause tval) 1 = d9 cs 1 := by grind [m4, oU, d9]
 refine am func206 ntmps206 ?_
 refine ah (ap zC (wy b h)) ?_
 refine bz [] 18 fun a => ?_
 refine aj 0 8 a ?_
 refine az 8 a (fB iO aX rfl rfl (i := 2) rfl (by decide) (by first | exact Qac _ | rfl)) ?_
 refine aj 10 2 a ?_
 refine aj 14 2 a ?_
 refine cm 9 (dt (by grind [yx]) (yy (n := 2) h.len (by decide))) fun a => ?_
 refine az 12 a (fB iO aX rfl rfl (i := 3) rfl (by decide) (by first | exact Qac _ | rfl)) ?_
 refine cm 13 (dt (by rw [yx (h.set 2 pc c)]; decide) (yy (n := 3) (h.set 2 pc c).len (by decide))) fun a => ?_
 refine az 16 a (fB iO aX rfl rfl (i := 4) rfl (by decide) (by first | exact Qac _ | rfl)) ?_
 refine cm 17 (dt (by rw [yx ((h.set 2 pc c).set 3 cause d)]; decide) (yy (n := 4) ((h.set 2 pc c).set 3 cause d).len (by decide))) fun a => ?_
 refine aJ ?_
 refine aa (xC zD aX Ci rfl rfl rfl rfl) ?_
 refine aa (xC zD aX Ci rfl rfl rfl rfl) ?_
 refine aa (L5 (rs := [[wV 1, wV 2], [wV 4, wV 8]]) O7 G2 a7U (fp rfl rfl (fp rfl rfl hJ)) rfl) ?_
 refine ah (ap call281 (La (cs := oU cs pc cause tval) W0 _ b 4 1 2 4 8 f (by decide) (by decide) (by decide) (by decide) (by decide))) ?_
 rw [Xz, show (oU cs pc cause tval).set 5 (oT cs 4 1 2 4 8) = m4 cs pc cause tval from rfl]
 refine aa (fB iO aX rfl rfl (i := 1) rfl (by decide) (by first | exact Qac _ | rfl)) ?_
 refine aa (aE (aI (uN g (n := 1) (by decide)))) ?_
 refine ax ?_
 rw [j]
 exact ao
theorem a2g b (h : CsOk cs) : sQ W0 430 [pV b] (pt b (eg cs id) :: R) (.tuple #[wV (d9 cs 2), iQ 0]) (pt b (eg (oV cs) id) :: R) := by
 have a := h.leave
 have c : d9 (oV cs) 2 = d9 cs 2 := by grind [oV, d9]
 have d : d9 cs 5 &&& 10 < 4294967296 := QaI Qbw (h.at_ 5)
 refine am func430 ntmps430 ?_
 refine ah (ap zC (wy b h)) ?_
 refine aa (fB iO aX rfl rfl (i := 5) rfl (by decide) (by first | exact Qac _ | rfl)) ?_
 refine aa (aE (aI (uN h (n := 5) (by decide)))) ?_
 refine aa (eC rfl rfl (lh (h.at_ 5) (by decide) (b := 10))) ?_
 refine aa (xC zD aX Ci rfl rfl rfl rfl) ?_
 refine aa (xC zD aX Ci rfl rfl rfl rfl) ?_
 refine aa (L5 (rs := [[wV 2, wV 1], [wV 8, wV 4]]) O7 G2 a7U (fp rfl rfl (fp rfl rfl hJ)) rfl) ?_
 refine ah (ap call281 (La W0 _ b (d9 cs 5 &&& 10) 2 1 8 4 h d (by decide) (by decide) (by decide) (by decide))) ?_
 rw [show cs.set 5 (oT cs (d9 cs 5 &&& 10) 2 1 8 4) = oV cs from rfl]
 refine aa (fB iO aX rfl rfl (i := 2) rfl (by decide) (by first | exact Qac _ | rfl)) ?_
 refine aa (aE (aI (uN a (n := 2) (by decide)))) ?_
 refine ax ?_
 rw [c]
 exact ao
end
end
end Go.Proofs.YtbhimdcapbflkaaGreatDoor
