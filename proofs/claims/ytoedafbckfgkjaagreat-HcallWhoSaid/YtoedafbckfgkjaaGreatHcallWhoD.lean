/-
  Part 4 of the proof of HcallWho: rules, and walks of functions. Conditions: none.
-/
import Derived.Test.YtoedafbckfgkjaaGreatHcallWhoC
namespace Go.Proofs.YtoedafbckfgkjaaGreat
set_option linter.unusedSimpArgs false
set_option linter.unusedVariables false
set_option maxRecDepth 20000
set_option linter.defProp false
set_option synthInstance.maxSize 8192
set_option synthInstance.maxHeartbeats 2000000
section
open Go.RowKit
abbrev pV (b : Nat) : Value := .pointer (some ⟨b, 0, none⟩)
structure Bd where
  r : Nat
  c : Nat
  m : Nat
  v : Nat
  t : Nat
@[reducible] def kz (x : Bd) (qs : List Nat) : List Value := [pV x.r, pV x.c, pV x.m] ++ (qs.map pV ++ List.replicate (3 - qs.length) (.pointer none)) ++ [pV x.v, pV x.t, .bool false, .int .u32 0, .int .u32 0, .int .u32 0, .int .u32 0]
theorem De {x : Bd} {q : Nat} : ∀ {qs : List Nat}, qs.length < 3 → (kz x qs).set (3 + qs.length * 1) (pV q) = kz x (qs ++ [q])
 | [], _ => rfl
 | [a], _ => rfl
 | [a, b], _ => rfl
theorem Df {x : Bd} {qs : List Nat} (h : qs.length ≤ 3) : (kz x qs).length = 13 := by
 simp [kz]; omega
abbrev oT (x : Bd) (i bt bs pv : Nat) (T : List HP) : List HP := pt x.r (bD (List.replicate 16 0) 0) :: pt x.c (wB i) :: pt x.m (wJ pv bt bs) :: dX bt ([], [.int .i64 ((4 : Nat) : Int), .int .i64 0, .bool true]) :: pt bs (aj [cZ, .bool true] 481) :: pt x.v ib :: pt x.t wC :: T
theorem wK {l : List HP} {x : HP} {R : List HP} : Ent (x :: kH 6 (aX l) :: R) (kH 6 (aX (l ++ [x])) :: R) :=
 (Ent.cons (hM (A := l) (R := R))).trans ((Ent.ofPerm (by
  show (x :: (l ++ R)).Perm ((l ++ [x]) ++ R)
  rw [List.append_assoc]
  exact (List.perm_middle).symm)).trans fC)
@[reducible] def wL (x : Bd) (q0 q1 q2 : Nat) : List Value := [pV x.r, pV x.c, pV x.m, pV q0, pV q1, pV q2, pV x.v, pV x.t, .bool false, .int .u32 0, .int .u32 0, .int .u32 0, .int .u32 0]
theorem Dg (W0 : World) (R : List HP) (i pv ps pm d : Nat) (hi : i < 4) :
  ao Tryz.prog W0 80 [.int .i64 i, pV pv] (pt pv (iu ps pm d) :: R)
   (fun v B => ∃ x bt bs q0 q1 q2, v = .tuple #[.agg (wL x q0 q1 q2).toArray, .int .i64 0] ∧ B = oT x i bt bs pv (kH 6 (aX [pt q0 (qO true iw), pt q1 (qO true iw), pt q2 (qO true iw)]) :: pt pv (iu ps pm d) :: R)) := by
 refine d5 Tryz.func80 Tryz.ntmps80 rfl rfl ?_
 refine al (az (ae rfl (cd tq) ?_))
 rintro _ _ ⟨b4, rfl, rfl⟩
 refine aa rfl (ax rfl) (aw (ak (al (az (aa rfl (ag rfl) (ae rfl (aF Tryz.call191 rfl (CW W0 _ i hi)) ?_))))))
 rintro _ B_ ⟨cb, rfl, hB_⟩
 obtain rfl := hB_.symm
 refine aa rfl (ag rfl) (aa rfl (bZ rfl rfl) (aa rfl (bZ rfl rfl) (aa rfl (ax rfl) (aa rfl (ax rfl) (aw (ak (al (al (az (aa rfl (ag rfl) (aa rfl (du rfl rfl) (aw (ak ?_)))))))))))))
 refine ai rfl ?_ ?_
 ·intro c2
  exact absurd c2 (by decide)
 ·intro c2
  refine cy (ak (al (az (aa rfl (ag rfl) ?_))))
  refine ae rfl (aM Tryz.call192 rfl (Dd W0 _ pv ps pm d 4 (by decide))) ?_
  rintro _ B_ ⟨bm, bt, bs, rfl, hB_⟩
  obtain rfl := hB_.symm
  refine aa rfl (ag rfl) (aa rfl (bZ rfl rfl) (aa rfl (bZ rfl rfl) (aa rfl (ax rfl) (aa rfl (ax rfl) (aw (ak (al (al (az (aa rfl (ag rfl) (aa rfl (du rfl rfl) (aw (ak ?_)))))))))))))
  refine ai rfl ?_ ?_
  ·intro c5
   exact absurd c5 (by decide)
  ·intro c5
   refine cy (ak (al (az (ae rfl (aF Tryz.call193 rfl (CQ W0 _)) ?_))))
   rintro _ B_ ⟨rb, rfl, hB_⟩
   obtain rfl := hB_.symm
   refine aa rfl (ag rfl) (aa rfl (ag rfl) (ae rfl (aF Tryz.call194 rfl (CX W0 _)) ?_))
   rintro _ B_ ⟨vb, rfl, hB_⟩
   obtain rfl := hB_.symm
   refine ae rfl (aF Tryz.call195 rfl (CY W0 _)) ?_
   rintro _ B_ ⟨tb, rfl, hB_⟩
   obtain rfl := hB_.symm
   refine aa rfl (bI sP tq (aA sG (aA Tryz.sizeOf128 (aA Tryz.sizeOf129 (aA Tryz.sizeOf131 (aA xE (aA Tryz.sizeOf133 (aA cu (aA eh bH)))))))) (aS rfl sG rfl rfl (Nat.le_of_ble_eq_true rfl) SetL.eq (aS rfl Tryz.sizeOf128 rfl rfl (Nat.le_of_ble_eq_true rfl) SetL.eq (aS rfl Tryz.sizeOf129 rfl rfl (Nat.le_of_ble_eq_true rfl) SetL.eq (aS rfl xE rfl rfl (Nat.le_of_ble_eq_true rfl) SetL.eq (aS rfl Tryz.sizeOf133 rfl rfl (Nat.le_of_ble_eq_true rfl) SetL.eq bG)))))) ?_
   refine ae rfl (cd tq) ?_
   rintro _ _ ⟨b9, rfl, rfl⟩
   refine b0 (bS jp rfl rfl rfl rfl rfl) ?_
   rintro _ _ rfl
   refine aw (ak (al (al (az (aa rfl (ag rfl) (aw (ak (dt ?_))))))))
   refine ce (fun qs : List Nat => qs.length ≤ 3) (fun qs => [(4, pV b4), (9, pV b9), (35, .int .i64 qs.length)]) (fun qs => pt b9 (aj (kz ⟨rb, cb, bm, vb, tb⟩ qs) 135) :: kH 6 (aX (qs.map fun q => pt q (qO true iw))) :: pt b4 (aj [.pointer none, .pointer none, .pointer none, .pointer none, .pointer none, .pointer none, .pointer none, .pointer none, .bool false, .int .u32 0, .int .u32 0, .int .u32 0, .int .u32 0] 135) :: oT ⟨rb, cb, bm, vb, tb⟩ i bt bs pv (pt pv (iu ps pm d) :: R)) (fun qs => 3 - qs.length) [] ?_ ?_ ?_ ?_
   ·exact Nat.zero_le _
   ·repeat (first | exact aJ | refine aG rfl ?_)
   ·refine Ent.trans (B := pt b9 (aj (kz ⟨rb, cb, bm, vb, tb⟩ []) 135) :: pt b4 (aj [.pointer none, .pointer none, .pointer none, .pointer none, .pointer none, .pointer none, .pointer none, .pointer none, .bool false, .int .u32 0, .int .u32 0, .int .u32 0, .int .u32 0] 135) :: oT ⟨rb, cb, bm, vb, tb⟩ i bt bs pv (pt pv (iu ps pm d) :: R)) ?_ ?_
    ·rw [show kz ⟨rb, cb, bm, vb, tb⟩ [] = [pV rb, pV cb, pV bm, .pointer none, .pointer none, .pointer none, pV vb, pV tb, .bool false, .int .u32 0, .int .u32 0, .int .u32 0, .int .u32 0] from rfl]
     exact inferInstance
    exact Ent.cons (fC (A := []))
   ·intro qs hq
    refine al (az (aa rfl (eO rfl rfl) (aw (ak (al ?_)))))
    refine ai rfl ?_ ?_
    ·intro c9
     refine cy (ak (al (dt (al (az (aa rfl (ag rfl) (aa rfl (ax rfl) (aw (ak ?_)))))))))
     have hq3 : qs.length < 3 := by omega
     refine az (aa rfl (ag rfl) (ae rfl (aF Tryz.call196 rfl (BL W0 _)) ?_))
     rintro _ B_ ⟨q, rfl, hB_⟩
     obtain rfl := hB_.symm
     refine aa rfl (ap rfl sP rfl Tryz.sizeOf131 rfl (by first | exact Nat.zero_add _ | rfl)) ?_
     refine aa rfl (dv Tryz.underlying131 Tryz.sizeOf130 rfl rfl rfl hq3 (by first | exact Nat.zero_add _ | rfl)) ?_
     refine b0 (bN Tryz.sizeOf130 rfl rfl rfl (by rw [Df hq]; omega) (De hq3)) ?_
     rintro _ _ rfl
     refine aw (fY (ak (az ?_)))
     refine aa rfl (bj rfl rfl (by first | exact aK (by omega) | rfl)) ?_
     refine aa rfl (ag rfl) (aw (ak ?_))
     refine bU (qs ++ [q]) ?_ ?_ ?_ ?_
     ·show (qs ++ [q]).length ≤ 3; simp; omega
     ·show 3 - (qs ++ [q]).length < 3 - qs.length; simp; omega
     ·rw [show ((qs ++ [q]).length : Int) = ((qs.length : Nat) : Int) + 1 by simp]
      repeat (first | exact aJ | refine aG rfl ?_)
     ·rw [List.map_append]
      exact Ent.cons wK
    ·intro c9
     refine gJ (eV (eV (i3 (ak (al ?_)))))
     have hq3 : qs.length = 3 := by omega
     obtain ⟨q0, q1, q2, rfl⟩ : ∃ q0 q1 q2, qs = [q0, q1, q2] := by
      match qs, hq3 with
      | [a, b, c], _ => exact ⟨a, b, c, rfl⟩
     refine az (aa rfl (iS yw jp rfl rfl) ?_)
     refine b0 (bS jp rfl rfl rfl rfl rfl) ?_
     rintro _ _ rfl
     refine aa rfl (ax rfl) (aw (ak (bY (ah (.inl rfl) (.cons (fh yw jp rfl rfl) (.cons (ac rfl) .nil)) ?_))))
     refine ⟨_, ⟨⟨rb, cb, bm, vb, tb⟩, bt, bs, q0, q1, q2, rfl, rfl⟩, ?_⟩
     rw [show [q0, q1, q2].map (fun q => pt q (qO true iw)) = [pt q0 (qO true iw), pt q1 (qO true iw), pt q2 (qO true iw)] from rfl]
     exact inferInstance
def kA (r : Int × Int) (i : Int) : Int := if i = r.1 then 3 else if i = r.2 then 1 else 0
theorem Dh (W0 : World) (R : List HP) (r : Int × Int) (i : Int) :
  ao Tryz.prog W0 188 [.agg (cM r).toArray, .int .i64 i] R (fun v B => v = .int .i64 (kA r i) ∧ B = R) := by
 refine aD Tryz.func188 Tryz.ntmps188 rfl rfl ?_
 refine au 2 ?_
 refine ae rfl (bw rfl) ?_
 rintro _ _ ⟨b2, rfl, rfl⟩
 refine au 18 ?_
 refine ai rfl ?_ ?_
 ·intro c2
  refine au 8 ?_
  refine ah (.inl rfl) (.cons (ac rfl) .nil) ?_
  rw [kA, if_pos (by simpa using c2)]
  exact ⟨_, ⟨rfl, rfl⟩, inferInstance⟩
 ·intro c2
  refine au 8 ?_
  refine ai rfl ?_ ?_
  ·intro c4
   refine au 8 ?_
   refine ah (.inl rfl) (.cons (ac rfl) .nil) ?_
   rw [kA, if_neg (by simpa using c2), if_pos (by simpa using c4)]
   exact ⟨_, ⟨rfl, rfl⟩, inferInstance⟩
  ·intro c4
   refine au 9 ?_
   refine ah (.inl rfl) (.cons (ac rfl) .nil) ?_
   rw [kA, if_neg (by simpa using c2), if_neg (by simpa using c4)]
   exact ⟨_, ⟨rfl, rfl⟩, inferInstance⟩
def dq (c : Cfg) (k : Nat) : Int × Int := c.nl.getD k (0, 0)
def iz (c : Cfg) (i : Int) : Nat → List Pl → List Pl
  | 0, pg => pg
  | k + 1, pg => if kA (dq c k) i = 0 then iz c i k pg else dY (iz c i k pg) ((8 + k : Nat) : Int) (fy c k, kA (dq c k) i)
theorem oU {c : Cfg} {i : Int} {pg : List Pl} (h : Pgs pg) : ∀ k, Pgs (iz c i k pg)
 | 0 => h
 | k + 1 => by
  rw [iz]; split
  ·exact oU h k
  ·exact nZ (oU h k)
theorem Di (W0 : World) (R : List HP) (c : Cfg) (h : CfK W0 c) (i : Int) (pm : Nat) (pg : List Pl) (hp : Pgs pg) (hn : c.nl.length ≤ 4) :
  ao Tryz.prog W0 78 [.agg (bF c).toArray, .int .i64 i, pV pm] (pt pm (df pg) :: R) (fun v B => v = .tuple #[] ∧ B = pt pm (df (iz c i c.nl.length pg)) :: R) := by
 refine aD Tryz.func78 Tryz.ntmps78 rfl rfl ?_
 refine au 2 ?_
 refine ae rfl (bw rfl) ?_
 rintro _ _ ⟨b3, rfl, rfl⟩
 refine au 11 ?_
 refine ce (fun k : Nat => k ≤ c.nl.length) (fun k => [(1, .int .i64 i), (2, pV pm), (3, pV b3), (10, .slice c.na c.nl.length c.nc), (11, .int .i64 (c.nl.length : Nat)), (12, .int .i64 k)]) (fun k => pt b3 (cJ c) :: pt pm (df (iz c i k pg)) :: R) (fun k => c.nl.length - k) 0 ?_ ?_ ?_ ?_
 ·exact Nat.zero_le _
 ·repeat (first | exact aJ | refine aG rfl ?_)
 ·rw [show iz c i 0 pg = pg from rfl]
  exact inferInstance
 ·intro k hk
  refine au 6 ?_
  refine ai rfl ?_ ?_
  ·intro c2
   refine au 2 ?_
   refine gn (fun _ : Unit => k < c.nl.length) (fun _ => [(1, .int .i64 i), (2, pV pm), (3, pV b3), (10, .slice c.na c.nl.length c.nc), (11, .int .i64 (c.nl.length : Nat)), (12, .int .i64 k)]) (fun _ => pt b3 (cJ c) :: pt pm (df (iz c i (k + 1) pg)) :: R) ?_ ?_
   ·skip
    refine au 2 ?_
    have hk1 : k < c.nl.length := by omega
    obtain ⟨g, o, hga, hc⟩ := (h.ok.n []).at_ hk1
    obtain ⟨x, hx⟩ : ∃ x, c.nl[k] = x := ⟨_, rfl⟩
    rw [hx] at hc
    have hA : dq c k = x := by simp [dq, List.getD, hk1, hx]
    have hpk := oU (c := c) (i := i) hp k
    refine au 2 ?_
    refine aa rfl (di gk dT rfl hga rfl rfl hk1 (by first | exact Nat.zero_add _ | rfl)) ?_
    refine aa rfl (cj kF dT rfl hc.weak rfl) ?_
    refine ae rfl (cd gY) ?_
    rintro _ _ ⟨b7, rfl, rfl⟩
    refine aa rfl (ax rfl) (b0 (bS dT rfl rfl rfl rfl rfl) ?_)
    rintro _ _ rfl
    refine au 6 ?_
    refine ae rfl (aF Tryz.call188 rfl (Dh W0 _ x i)) ?_
    rintro _ B_ ⟨rfl, hB_⟩
    obtain rfl := hB_.symm
    refine au 9 ?_
    refine ai rfl ?_ ?_
    ·intro c5
     refine au 3 ?_
     refine aa rfl (bj rfl rfl (by rw [aK (by omega)]; omega : IntKind.wrap .i64 (8 + (k : Int)) = ((8 + k : Nat) : Int))) ?_
     refine au 2 ?_
     refine ae rfl (aF Tryz.call189 rfl (wu W0 _ c h k)) ?_
     rintro _ B_ ⟨rfl, hB_⟩
     obtain rfl := hB_.symm
     refine aa rfl (ag rfl) (aa rfl (bI jr iO (aA ar (aA ar bH)) (aS rfl ar rfl rfl (Nat.le_of_ble_eq_true rfl) SetL.eq (aS rfl ar rfl rfl (Nat.le_of_ble_eq_true rfl) SetL.eq bG))) ?_)
     refine ae rfl (aM Tryz.call187 rfl (uD W0 _ pm (iz c i k pg) hpk (8 + k : Nat) (fy c k, kA x i))) ?_
     rintro _ B_ ⟨rfl, hB_⟩
     obtain rfl := hB_.symm
     refine au 3 ?_
     refine d8 () ?_ ?_ ?_
     ·exact hk1
     ·repeat (first | exact aJ | refine aG rfl ?_)
     ·rw [iz, hA, if_neg (by simpa using c5)]
      exact inferInstance
    ·intro c5
     refine au 3 ?_
     refine d8 () ?_ ?_ ?_
     ·exact hk1
     ·repeat (first | exact aJ | refine aG rfl ?_)
     ·rw [iz, hA, if_pos (by simpa using c5)]
      exact inferInstance
   ·intro _ hk1
    refine az ?_
    refine aa rfl (bj rfl rfl (by first | exact aK (by omega) | rfl)) ?_
    refine au 3 ?_
    refine bU (k + 1) ?_ ?_ ?_ ?_
    ·omega
    ·omega
    ·repeat (first | exact aJ | refine aG rfl ?_)
    ·exact inferInstance
  ·intro c2
   refine au 4 ?_
   refine ah (.inr rfl) .nil ?_
   obtain rfl : k = c.nl.length := by omega
   exact ⟨_, ⟨rfl, rfl⟩, inferInstance⟩
theorem Dj {ws : List Nat} {n : Nat} (h : n ≤ 8) : bA (bA ws 8) n = bA ws n := by
 rw [bA, bA, bA, List.take_take, Nat.min_eq_left (by omega)]
abbrev ic : List Pl := List.replicate 12 (0, 0)
theorem oV : Pgs ic := ⟨rfl, fun n hn h => absurd (by
 have : n = 0 ∨ n = 1 ∨ n = 2 ∨ n = 3 ∨ n = 4 ∨ n = 5 ∨ n = 6 ∨ n = 7 ∨ n = 8 ∨ n = 9 ∨ n = 10 ∨ n = 11 := by omega
 rcases this with rfl | rfl | rfl | rfl | rfl | rfl | rfl | rfl | rfl | rfl | rfl | rfl <;> rfl) h⟩
theorem wM : kj ic 0 8 := fun i _ hi => by
 have : i = 0 ∨ i = 1 ∨ i = 2 ∨ i = 3 ∨ i = 4 ∨ i = 5 ∨ i = 6 ∨ i = 7 := by omega
 rcases this with rfl | rfl | rfl | rfl | rfl | rfl | rfl | rfl <;> decide
@[reducible] def oW (x : Bd) (q0 q1 q2 : Nat) (c : Cfg) (i : Nat) (wv : Value) (pb pv bx tr : Nat) : List Value :=
  [pV x.r, pV x.c, pV x.m, pV q0, pV q1, pV q2, pV x.v, pV x.t, .bool false, .int .u32 0, .int .u32 0, .int .u32 0, .int .u32 0] ++ bF c ++ [.int .i64 i, wv, pV pb, pV pv, pV bx, pV tr, .int .i64 0]
theorem Dl {S : World → Prop} {N : FSz} {e : bq} {o0 o1 o2 o3 o4 o5 o6 o7 : Operand} {x : Bd} {q0 q1 q2 i pb pv bx tr : Nat} {c : Cfg} {wv : Value} (hw : wv.oneCell' = true) (h0 : ev e o0 = some (.agg (wL x q0 q1 q2).toArray)) (h1 : ev e o1 = some (.agg (bF c).toArray)) (h2 : ev e o2 = some (.int .i64 i)) (h3 : ev e o3 = some wv) (h4 : ev e o4 = some (pV pb)) (h5 : ev e o5 = some (pV pv)) (h6 : ev e o6 = some (pV bx)) (h7 : ev e o7 = some (pV tr)) :
  bP Tryz.prog S N e (.build 139 #[(0, o0), (1, o1), (2, o2), (3, o3), (4, o4), (5, o5), (6, o6), (7, o7)]) (.agg (oW x q0 q1 q2 c i wv pb pv bx tr).toArray) :=
 bI (l' := oW x q0 q1 q2 c i wv pb pv bx tr) sQ Tryz.zeroValue139 (aA jp (aA dM (aA ar (aA np (aA nt (aA pj (aA Tryz.sizeOf137 (aA sN (aA ar bH)))))))))
  (i5 (l' := [pV x.r, pV x.c, pV x.m, pV q0, pV q1, pV q2, pV x.v, pV x.t, .bool false, .int .u32 0, .int .u32 0, .int .u32 0, .int .u32 0, .int .i64 0, .slice none 0 0, .slice none 0 0, .slice none 0 0, .slice none 0 0, .slice none 0 0, .int .i64 0, .int .i64 0, .int .i64 0, .slice none 0 0, .pointer none, .pointer none, .pointer none, .pointer none, .int .i64 0]) rfl jp h0 rfl (Nat.le_of_ble_eq_true rfl) rfl
  (i5 (l' := [pV x.r, pV x.c, pV x.m, pV q0, pV q1, pV q2, pV x.v, pV x.t, .bool false, .int .u32 0, .int .u32 0, .int .u32 0, .int .u32 0, .int .i64 c.cats, .slice c.ga c.gl.length c.gc, .slice c.ra c.rl.length c.rc, .slice c.pa c.pl.length c.pc, .slice c.na c.nl.length c.nc, .slice c.sa c.sl.length c.sc, .int .i64 c.gate, .int .i64 c.quota, .int .i64 0, .slice none 0 0, .pointer none, .pointer none, .pointer none, .pointer none, .int .i64 0]) rfl dM h1 rfl (Nat.le_of_ble_eq_true rfl) rfl
  (aS (l' := [pV x.r, pV x.c, pV x.m, pV q0, pV q1, pV q2, pV x.v, pV x.t, .bool false, .int .u32 0, .int .u32 0, .int .u32 0, .int .u32 0, .int .i64 c.cats, .slice c.ga c.gl.length c.gc, .slice c.ra c.rl.length c.rc, .slice c.pa c.pl.length c.pc, .slice c.na c.nl.length c.nc, .slice c.sa c.sl.length c.sc, .int .i64 c.gate, .int .i64 c.quota, .int .i64 i, .slice none 0 0, .pointer none, .pointer none, .pointer none, .pointer none, .int .i64 0]) rfl ar h2 rfl (Nat.le_of_ble_eq_true rfl) rfl
  (aS (l' := [pV x.r, pV x.c, pV x.m, pV q0, pV q1, pV q2, pV x.v, pV x.t, .bool false, .int .u32 0, .int .u32 0, .int .u32 0, .int .u32 0, .int .i64 c.cats, .slice c.ga c.gl.length c.gc, .slice c.ra c.rl.length c.rc, .slice c.pa c.pl.length c.pc, .slice c.na c.nl.length c.nc, .slice c.sa c.sl.length c.sc, .int .i64 c.gate, .int .i64 c.quota, .int .i64 i, wv, .pointer none, .pointer none, .pointer none, .pointer none, .int .i64 0]) rfl np h3 hw (Nat.le_of_ble_eq_true rfl) rfl
  (aS (l' := [pV x.r, pV x.c, pV x.m, pV q0, pV q1, pV q2, pV x.v, pV x.t, .bool false, .int .u32 0, .int .u32 0, .int .u32 0, .int .u32 0, .int .i64 c.cats, .slice c.ga c.gl.length c.gc, .slice c.ra c.rl.length c.rc, .slice c.pa c.pl.length c.pc, .slice c.na c.nl.length c.nc, .slice c.sa c.sl.length c.sc, .int .i64 c.gate, .int .i64 c.quota, .int .i64 i, wv, pV pb, .pointer none, .pointer none, .pointer none, .int .i64 0]) rfl nt h4 rfl (Nat.le_of_ble_eq_true rfl) rfl
  (aS (l' := [pV x.r, pV x.c, pV x.m, pV q0, pV q1, pV q2, pV x.v, pV x.t, .bool false, .int .u32 0, .int .u32 0, .int .u32 0, .int .u32 0, .int .i64 c.cats, .slice c.ga c.gl.length c.gc, .slice c.ra c.rl.length c.rc, .slice c.pa c.pl.length c.pc, .slice c.na c.nl.length c.nc, .slice c.sa c.sl.length c.sc, .int .i64 c.gate, .int .i64 c.quota, .int .i64 i, wv, pV pb, pV pv, .pointer none, .pointer none, .int .i64 0]) rfl pj h5 rfl (Nat.le_of_ble_eq_true rfl) rfl
  (aS (l' := [pV x.r, pV x.c, pV x.m, pV q0, pV q1, pV q2, pV x.v, pV x.t, .bool false, .int .u32 0, .int .u32 0, .int .u32 0, .int .u32 0, .int .i64 c.cats, .slice c.ga c.gl.length c.gc, .slice c.ra c.rl.length c.rc, .slice c.pa c.pl.length c.pc, .slice c.na c.nl.length c.nc, .slice c.sa c.sl.length c.sc, .int .i64 c.gate, .int .i64 c.quota, .int .i64 i, wv, pV pb, pV pv, pV bx, .pointer none, .int .i64 0]) rfl Tryz.sizeOf137 h6 rfl (Nat.le_of_ble_eq_true rfl) rfl
  (aS (l' := [pV x.r, pV x.c, pV x.m, pV q0, pV q1, pV q2, pV x.v, pV x.t, .bool false, .int .u32 0, .int .u32 0, .int .u32 0, .int .u32 0, .int .i64 c.cats, .slice c.ga c.gl.length c.gc, .slice c.ra c.rl.length c.rc, .slice c.pa c.pl.length c.pc, .slice c.na c.nl.length c.nc, .slice c.sa c.sl.length c.sc, .int .i64 c.gate, .int .i64 c.quota, .int .i64 i, wv, pV pb, pV pv, pV bx, pV tr, .int .i64 0]) rfl sN h7 rfl (Nat.le_of_ble_eq_true rfl) rfl
  bG))))))))
def laid (c : Cfg) (i : Nat) (ws : List Nat) (fr : List bJ) (po : Po) : Im := cD i (bA ws (cA c i).2.1.toNat) (cA c i).2.1.toNat ⟨fr, po, ic⟩
theorem Dm (W0 : World) (R : List HP) (c : Cfg) (h : CfK W0 c) (hr : rt c = true) (i : Nat) (hi : i < c.gl.length) (ps pb : Nat) (fr : List bJ) (po : Po) (hF : dJ fr) (hP : PoOk po) (hl : po.length = fr.length) (h0 : 0 < fr.length) (hfre : (cA c i).2.1 ≤ ((bB po i).length : Int))
  (a : Option Addr) (cap : Nat) (ws : List Nat) (hs : ∀ A, bT (bu W0 A) a 1 ix ws) (hb : ∀ y ∈ ws, y < 4294967296) (hn : ws.length < 9223372036854775808) :
  ao Tryz.prog W0 28 [.agg (bF c).toArray, .int .i64 i, pV ps, pV pb, .slice a ws.length cap] (cH pb (ps, po) :: bn ps fr :: R)
   (fun v B => ∃ gb x bt bs q0 q1 q2 wg pv pm bx tr, v = .tuple #[pV gb, .int .i64 0] ∧
    B = pt gb (aj (oW x q0 q1 q2 c i (.slice (some ⟨wg, 0, none⟩) (bA ws 8).length (bA ws 8).length) pb pv bx tr) 139) :: oT x i bt bs pv (kH 6 (aX [pt q0 (qO true iw), pt q1 (qO true iw), pt q2 (qO true iw)]) :: pt pv (iu ps pm 0) :: pt bx wD :: bO tr [] :: pt wg (aj ((bA ws 8).map wV) 42) :: pt pm (df (iz c i c.nl.length (laid c i ws fr po).pg)) :: cH pb (ps, (laid c i ws fr po).po) :: bn ps (laid c i ws fr po).fr :: R)) := by
 have hck : fw c = 0 := of_decide_eq_true hr
 have hR := eQ hr
 have hg4 := hR.g4
 have hgs := hR.gs i hi
 obtain ⟨g, o, hga, hc⟩ := (h.ok.g []).at_ hi
 obtain ⟨x, hx⟩ : ∃ x, c.gl[i] = x := ⟨_, rfl⟩
 have hA : cA c i = x := by simp [cA, List.getD, hi, hx]
 obtain ⟨n, hxn⟩ : ∃ n : Nat, x.2.1 = (n : Int) := ⟨x.2.1.toNat, by rw [hA] at hgs; omega⟩
 have hln : (cA c i).2.1.toNat = n := by rw [hA, hxn]; rfl
 have hlaid : laid c i ws fr po = cD i (bA (bA ws 8) n) n ⟨fr, po, ic⟩ := by rw [laid, hln, Dj (by rw [hA] at hgs; omega)]
 rw [hlaid]
 rw [hx] at hc
 rw [hA, hxn] at hgs hfre
 have hok : ImOk ⟨fr, po, ic⟩ := ⟨hF, hP, oV, hl⟩
 have hok1 := ki (who := i) (words := bA (bA ws 8) n) (n := n) (by omega) hok
 have hcl := mI ws 8
 have hpo1 := hok1.len
 have hfr1 : 0 < (cD i (bA (bA ws 8) n) n ⟨fr, po, ic⟩).fr.length := by
  have : ∀ k, (cD i (bA (bA ws 8) n) k ⟨fr, po, ic⟩).fr.length = fr.length := fun k => by
   induction k with
   | zero => rfl
   | succ k ih =>
    rw [cD, fI]
    split
    ·rw [(l8 (ki (by omega) hok).fr).2]; exact ih
    ·exact ih
  rw [this]; exact h0
 refine aD Tryz.func28 Tryz.ntmps28 rfl rfl ?_
 refine au 2 ?_
 refine ae rfl (bw rfl) ?_
 rintro _ _ ⟨b5, rfl, rfl⟩
 refine au 8 ?_
 refine ae rfl (aF tm rfl (oE W0 _ c h.ok)) ?_
 rintro _ B_ ⟨at_, rfl, hB_⟩
 obtain rfl := hB_.symm
 rw [hck]
 refine au 12 ?_
 refine aZ rfl rfl rfl ?_ ?_
 ·intro g2_3
  exact absurd g2_3 (by decide)
 ·intro g2_3
  refine au 5 ?_
  refine aZ rfl rfl rfl ?_ ?_
  ·intro g2_7
   omega
  ·intro g2_7
   refine au 12 ?_
   refine ai rfl ?_ ?_
   ·intro c2
    omega
   ·intro c2
    refine au 4 ?_
    refine ae rfl (aF Tryz.call74 rfl (zG W0 _)) ?_
    rintro _ B_ ⟨pm, rfl, hB_⟩
    obtain rfl := hB_.symm
    refine au 7 ?_
    refine ae rfl (aM nj rfl (l5 W0 _ ps fr)) ?_
    rintro _ B_ ⟨rfl, hB_⟩
    obtain rfl := hB_.symm
    refine au 2 ?_
    refine aZ rfl rfl rfl ?_ ?_
    ·intro g5_4
     omega
    ·intro g5_4
     refine au 6 ?_
     refine ai rfl ?_ ?_
     ·intro c5
      cases c5
     ·intro c5
      refine au 5 ?_
      refine ae rfl (aF Tryz.call76 rfl (vY W0 _ a cap 8 ws (hs _) (by decide) hn)) ?_
      rintro _ B_ ⟨wg, rfl, hB_⟩
      obtain rfl := hB_.symm
      refine au 13 ?_
      refine aa rfl (di eC ei rfl hga rfl rfl hi (by first | exact Nat.zero_add _ | rfl)) ?_
      refine aa rfl (ap rfl dC rfl ar rfl (by first | exact Nat.zero_add _ | rfl)) ?_
      refine aa rfl (am aT rfl (hc.weak 1 _ (by rw [← hxn]; rfl : (dB x)[1]? = some (.int .i64 (n : Int))))) ?_
      refine aa rfl (ag rfl) ?_
      refine ae rfl (jX Tryz.call77 rfl (C0 W0 _ pb ps pm i n ⟨fr, po, ic⟩ hok h0 (some ⟨wg, 0, none⟩) (bA ws 8).length (bA ws 8) (by omega) (by omega) (by omega) wM (by show n ≤ (bB po i).length; omega) (by intro A hA; exact (jA (b := wg) rO (rP _).symm).weak (k := hA)) (fun y hy => hb y (List.mem_of_mem_take hy)) (by omega))) ?_
      rintro _ B_ ⟨rfl, hB_⟩
      obtain rfl := hB_.symm
      refine au 9 ?_
      refine ai rfl ?_ ?_
      ·intro c9
       exact absurd c9 (by decide)
      ·intro c9
       refine au 7 ?_
       refine ae rfl (aM Tryz.call78 rfl (Di W0 _ c h i pm _ hok1.pg hR.nn)) ?_
       rintro _ B_ ⟨rfl, hB_⟩
       obtain rfl := hB_.symm
       refine au 6 ?_
       refine ae rfl (eE Tryz.call79 rfl (Bs W0 _ ps pm _ _ (oU hok1.pg _) hfr1)) ?_
       rintro _ B_ ⟨pv, rfl, hB_⟩
       obtain rfl := hB_.symm
       refine au 14 ?_
       refine ai rfl ?_ ?_
       ·intro c13
        exact absurd c13 (by decide)
       ·intro c13
        refine au 6 ?_
        refine ae rfl (aM Tryz.call80 rfl (Dg W0 _ i pv ps pm 0 (by omega))) ?_
        rintro _ B_ ⟨x_, bt, bs, q0, q1, q2, rfl, hB_⟩
        obtain rfl := hB_.symm
        refine au 3 ?_
        refine ae rfl (cd tq) ?_
        rintro _ _ ⟨b19, rfl, rfl⟩
        refine b0 (bS jp rfl rfl rfl rfl rfl) ?_
        rintro _ _ rfl
        refine au 10 ?_
        refine ai rfl ?_ ?_
        ·intro c16
         exact absurd c16 (by decide)
        ·intro c16
         refine au 3 ?_
         refine bR [(b19, 0, _), (b5, 0, _)] 12 bQ rfl (aC (aC aB)) (fun hS => ?_)
         refine ab 0 rfl rfl rfl hS (cj yw jp rfl (by first | exact cT (k := 0) rfl | exact cT (k := 1) rfl) rfl) ?_
         refine ab 1 rfl rfl rfl hS (cj gC dM rfl (by first | exact cT (k := 0) rfl | exact cT (k := 1) rfl) rfl) ?_
         refine ab 2 rfl rfl rfl hS (ag rfl) ?_
         refine ab 3 rfl rfl rfl hS (ag rfl) ?_
         refine ab 4 rfl rfl rfl hS (ag rfl) ?_
         refine ab 5 rfl rfl rfl hS (ag rfl) ?_
         refine aW 6 (by kernel_rfl) rfl rfl (aF Tryz.call81 rfl (CZ W0 _)) rfl ?_; clear hS
         rintro _ B_ ⟨bx, rfl, hB_⟩
         obtain rfl := hB_.symm
         refine ⟨(aC (aC aB)), fun hS => ?_⟩
         refine aW 7 (by kernel_rfl) rfl rfl (aF Tryz.call82 rfl (D3 W0 _)) rfl ?_; clear hS
         rintro _ B_ ⟨tr, rfl, hB_⟩
         obtain rfl := hB_.symm
         refine ⟨(aC (aC aB)), fun hS => ?_⟩
         refine ab 8 rfl rfl rfl hS (Dl rfl rfl rfl rfl rfl rfl rfl rfl rfl) ?_
         refine aW 9 (by kernel_rfl) rfl rfl (bw rfl) rfl ?_; clear hS
         rintro _ _ ⟨gb, rfl, rfl⟩
         refine ⟨(aC (aC aB)), fun hS => ?_⟩
         refine ab 10 rfl rfl rfl hS (ax rfl) ?_
         refine ab 11 rfl rfl rfl hS (ax rfl) ?_
         refine bz (by kernel_rfl) ?_; clear hS
         refine au 2 ?_
         refine ah (.inl rfl) (.cons (ac rfl) (.cons (ac rfl) .nil)) ?_
         refine ⟨_, ⟨gb, x_, bt, bs, q0, q1, q2, wg, pv, pm, bx, tr, rfl, rfl⟩, inferInstance⟩
theorem se : ∀ (vs l : List Value) (i j : Nat), j < i → (setR l i vs)[j]? = l[j]?
 | [], l, i, j, h => rfl
 | v :: vs, l, i, j, h => by
  rw [setR, se vs _ _ _ (by omega), List.getElem?_set_ne (by omega)]
theorem wN : ∀ (vs l : List Value) (i : Nat), (setR l i vs).length = l.length
 | [], l, i => rfl
 | v :: vs, l, i => by rw [setR, wN vs, List.length_set]
structure RgC (i : Nat) (pv : Nat) (cs : List Value) : Prop where
  len : cs.length = 48
  ci : cs[8]? = some (.int .i64 i)
  cv : cs[13]? = some (pV pv)
theorem RgC.set {i pv : Nat} {cs : List Value} (h : RgC i pv cs) {k : Nat} {v : Value} (h1 : k ≠ 8) (h2 : k ≠ 13) : RgC i pv (cs.set k v) :=
 ⟨by rw [List.length_set]; exact h.len, by rw [List.getElem?_set_ne h1]; exact h.ci, by rw [List.getElem?_set_ne h2]; exact h.cv⟩
theorem RgC.setR {i pv : Nat} {cs : List Value} (h : RgC i pv cs) {k : Nat} {vs : List Value} (h1 : 13 < k) : RgC i pv (setR cs k vs) :=
 ⟨by rw [wN]; exact h.len, by rw [se _ _ _ _ (by omega)]; exact h.ci, by rw [se _ _ _ _ (by omega)]; exact h.cv⟩
section
variable {W0 : World} {N : FSz} {K : Act → World → Prop} {e : bq} {A R : List HP} {b : Nat} {l : List Value} {T : TypeId}
theorem kB [hk : Tk pt b A (aj l T) R] (p : List Value → Prop) (h : p l) (k : ∀ cs, p cs → aE W0 N K e (pt b (aj cs T) :: R)) : aE W0 N K e A := dP (r := pt) (b := b) (k l h)
end
theorem Dn (W0 : World) (R : List HP) (b i : Nat) : ao Tryz.prog W0 293 [pV b] (pt b (aj [.int .u32 0, .int .u32 0, .int .u32 0, .int .u32 0, .int .u32 0, .int .u32 0, .int .u32 0, .int .i64 i] 455) :: R)
  (fun v B => v = .tuple #[] ∧ B = pt b (aj [.int .u32 0, .int .u32 0, .int .u32 0, .int .u32 0, .int .u32 0, .int .u32 4, .int .u32 0, .int .i64 i] 455) :: R) := by
 refine aD Tryz.func293 Tryz.ntmps293 rfl rfl ?_
 refine au 3 ?_
 refine aa rfl (mt yn cg ym rfl) ?_
 refine au 2 ?_
 refine b0 (iD lJ rfl rfl rfl rfl (Nat.le_of_ble_eq_true rfl) SetRL.eq) ?_
 rintro _ _ rfl
 refine au 6 ?_
 refine aa rfl (dv yn cg rfl rfl rfl (by decide) (by first | exact Nat.zero_add _ | rfl)) ?_
 refine b0 (bN cg rfl rfl rfl (Nat.le_of_ble_eq_true rfl) SetL.eq) ?_
 rintro _ _ rfl
 refine aw (ah (.inr rfl) .nil ?_)
 exact ⟨_, ⟨rfl, rfl⟩, inferInstance⟩
theorem Do (W0 : World) (R : List HP) (i : Nat) (hi : i < 4) : ao Tryz.prog W0 198 [.int .i64 i] R (fun v B => ∃ b, v = .tuple #[pV b, .int .i64 0] ∧ B = pt b (aj [.int .u32 0, .int .u32 0, .int .u32 0, .int .u32 0, .int .u32 0, .int .u32 4, .int .u32 0, .int .i64 i] 455) :: R) := by
 refine aD Tryz.func198 Tryz.ntmps198 rfl rfl ?_
 refine au 12 ?_
 refine aZ rfl rfl rfl ?_ ?_
 ·intro g1_3
  omega
 ·intro g1_3
  refine au 6 ?_
  refine ai rfl ?_ ?_
  ·intro c1
   omega
  ·intro c1
   refine au 5 ?_
   refine aa rfl (bI Fx Tryz.zeroValue455 (aA lJ (aA ar bH)) (aS rfl ar rfl rfl (Nat.le_of_ble_eq_true rfl) SetL.eq bG)) ?_
   refine ae rfl (bw rfl) ?_
   rintro _ _ ⟨b, rfl, rfl⟩
   refine au 6 ?_
   refine ae rfl (aM Tryz.call293 rfl (Dn W0 _ b i)) ?_
   rintro _ B_ ⟨rfl, hB_⟩
   obtain rfl := hB_.symm
   refine au 10 ?_
   refine ah (.inl rfl) (.cons (ac rfl) (.cons (ac rfl) .nil)) ?_
   exact ⟨_, ⟨_, rfl, rfl⟩, inferInstance⟩
theorem Dp (W0 : World) (R : List HP) (c : Cfg) (h : CfK W0 c) (hr : rt c = true) (i : Nat) (hi : i < c.gl.length) (gb pv pm pb qs : Nat) (fr : List bJ) (po : Po) (hF : dJ fr) (hP : PoOk po) (hl : po.length = fr.length) (h0 : 0 < fr.length) (hfre : (cA c i).2.1 ≤ ((bB po i).length : Int))
  (a : Option Addr) (cap : Nat) (ws : List Nat) (hs : ∀ A, bT (bu W0 A) a 1 ix ws) (hb : ∀ y ∈ ws, y < 4294967296) (hn : ws.length < 9223372036854775808) (hcap : ws.length ≤ cap)
  (cs : List Value) (hc : RgC i pv cs) (h1 : cs[1]? = some (.slice c.ga c.gl.length c.gc)) (h9 : cs[9]? = some (.slice a ws.length cap)) (h10 : cs[10]? = some (pV pb)) :
  ao Tryz.prog W0 84 [pV gb] (pt gb (aj cs 223) :: pt pv (lu qs pm 0) :: cB pb (qs, po) :: cq qs fr :: pt pm (fW ic) :: R)
   (fun v B => v = .int .i64 0 ∧ ∃ cs', RgC i pv cs' ∧ B = pt gb (aj cs' 223) :: pt pv (lu qs pm 0) :: cB pb (qs, (laid c i ws fr po).po) :: cq qs (laid c i ws fr po).fr :: pt pm (fW (laid c i ws fr po).pg) :: R) := by
 have hR := eQ hr
 have hg4 := hR.g4
 have hgs := hR.gs i hi
 obtain ⟨g, o, hga, hcc⟩ := (h.ok.g []).at_ hi
 obtain ⟨x, hx⟩ : ∃ x, c.gl[i] = x := ⟨_, rfl⟩
 have hA : cA c i = x := by simp [cA, List.getD, hi, hx]
 obtain ⟨n, hxn⟩ : ∃ n : Nat, x.2.1 = (n : Int) := ⟨x.2.1.toNat, by rw [hA] at hgs; omega⟩
 have hln : (cA c i).2.1.toNat = n := by rw [hA, hxn]; rfl
 have hlaid : laid c i ws fr po = cD i (bA ws n) n ⟨fr, po, ic⟩ := by rw [laid, hln]
 rw [hlaid]
 rw [hx] at hcc
 rw [hA, hxn] at hgs hfre
 have hok : ImOk ⟨fr, po, ic⟩ := ⟨hF, hP, oV, hl⟩
 have hlen := hc.len
 refine aD Tryz.func84 Tryz.ntmps84 rfl rfl ?_
 refine au 6 ?_
 refine bR [(gb, 0, cs), (pv, 0, _), (g, o + i * 3, dB x)] 40 bQ rfl (aC (aC (cm hcc.weak aB))) (fun hS => ?_)
 refine ab 0 rfl rfl rfl hS (ag rfl) ?_
 refine ab 1 rfl rfl rfl hS (aU rfl) ?_
 refine ab 2 rfl rfl rfl hS (ap rfl jQ rfl nu rfl (by first | exact Nat.zero_add _ | rfl)) ?_
 refine ab 3 rfl rfl rfl hS (am Tryz.isAgg98 rfl (av (k := 0) rfl h10)) ?_
 refine ab 4 rfl rfl rfl hS (ag rfl) ?_
 refine ab 5 rfl rfl rfl hS (aU rfl) ?_
 refine ab 6 rfl rfl rfl hS (ap rfl jQ rfl pn rfl (by first | exact Nat.zero_add _ | rfl)) ?_
 refine ab 7 rfl rfl rfl hS (am tt rfl (av (k := 0) rfl hc.cv)) ?_
 refine ab 8 rfl rfl rfl hS (aU rfl) ?_
 refine ab 9 rfl rfl rfl hS (ap rfl sR rfl jP rfl (by first | exact Nat.zero_add _ | rfl)) ?_
 refine ab 10 rfl rfl rfl hS (am xB rfl (av (k := 1) rfl rfl)) ?_
 refine ab 11 rfl rfl rfl hS (ag rfl) ?_
 refine ab 12 rfl rfl rfl hS (aU rfl) ?_
 refine ab 13 rfl rfl rfl hS (ap rfl jQ rfl pn rfl (by first | exact Nat.zero_add _ | rfl)) ?_
 refine ab 14 rfl rfl rfl hS (am tt rfl (av (k := 0) rfl hc.cv)) ?_
 refine ab 15 rfl rfl rfl hS (aU rfl) ?_
 refine ab 16 rfl rfl rfl hS (ap rfl sR rfl sH rfl (by first | exact Nat.zero_add _ | rfl)) ?_
 refine ab 17 rfl rfl rfl hS (am Tryz.isAgg224 rfl (av (k := 1) rfl rfl)) ?_
 refine ab 18 rfl rfl rfl hS (ag rfl) ?_
 refine ab 19 rfl rfl rfl hS (aU rfl) ?_
 refine ab 20 rfl rfl rfl hS (ap rfl jQ rfl ar rfl (by first | exact Nat.zero_add _ | rfl)) ?_
 refine ab 21 rfl rfl rfl hS (am aT rfl (av (k := 0) rfl hc.ci)) ?_
 refine ab 22 rfl rfl rfl hS (ag rfl) ?_
 refine ab 23 rfl rfl rfl hS (aU rfl) ?_
 refine ab 24 rfl rfl rfl hS (ap rfl jQ rfl dM rfl (by first | exact Nat.zero_add _ | rfl)) ?_
 refine ab 25 rfl rfl rfl hS (ap rfl cG rfl fc rfl (by first | exact Nat.zero_add _ | rfl)) ?_
 refine ab 26 rfl rfl rfl hS (am fA rfl (av (k := 0) rfl h1)) ?_
 refine ab 27 rfl rfl rfl hS (ag rfl) ?_
 refine ab 28 rfl rfl rfl hS (aU rfl) ?_
 refine ab 29 rfl rfl rfl hS (ap rfl jQ rfl ar rfl (by first | exact Nat.zero_add _ | rfl)) ?_
 refine ab 30 rfl rfl rfl hS (am aT rfl (av (k := 0) rfl hc.ci)) ?_
 refine ab 31 rfl rfl rfl hS (di eC ei rfl hga rfl rfl hi (by first | exact Nat.zero_add _ | rfl)) ?_
 refine ab 32 rfl rfl rfl hS (ap rfl dC rfl ar rfl (by first | exact Nat.zero_add _ | rfl)) ?_
 refine ab 33 rfl rfl rfl hS (am aT rfl (f6 (k := 2) (j := 1) rfl (by rw [← hxn]; rfl : (dB x)[1]? = some (.int .i64 (n : Int))))) ?_
 refine ab 34 rfl rfl rfl hS (ag rfl) ?_
 refine ab 35 rfl rfl rfl hS (aU rfl) ?_
 refine ab 36 rfl rfl rfl hS (ap rfl jQ rfl np rfl (by first | exact Nat.zero_add _ | rfl)) ?_
 refine ab 37 rfl rfl rfl hS (am Tryz.isAgg89 rfl (av (k := 0) rfl h9)) ?_
 refine aW 38 (by kernel_rfl) rfl rfl (jX Tryz.call197 rfl (Cj W0 _ pb qs pm i n ⟨fr, po, ic⟩ hok h0 a cap ws (by omega) (by omega) (by omega) wM (by show n ≤ (bB po i).length; omega) (fun A _ => hs A) hb hn hcap)) rfl ?_; clear hS
 rintro _ B_ ⟨rfl, hB_⟩
 obtain rfl := hB_.symm
 refine ⟨(aC (aC (cm hcc.weak aB))), fun hS => ?_⟩
 refine ab 39 rfl rfl rfl hS (ax rfl) ?_
 refine bz (by kernel_rfl) ?_; clear hS
 refine au 8 ?_
 refine ai rfl ?_ ?_
 ·intro c2
  exact absurd c2 (by decide)
 ·intro c2
  refine au 5 ?_
  refine aa rfl (bI Tryz.underlying358 Tryz.zeroValue358 (aA j9 (aA cg bH)) bG) ?_
  refine ae rfl (bw rfl) ?_
  rintro _ _ ⟨b1, rfl, rfl⟩
  refine au 2 ?_
  refine b0 (bN xG rfl rfl rfl (by rw [hlen]; decide) rfl) ?_
  rintro _ _ rfl
  refine au 3 ?_
  refine kB (b := gb) (RgC i pv) (hc.set (by decide) (by decide)) fun cs2 hc2 => ?_
  refine au 4 ?_
  refine aa rfl (am aT rfl (aH hc2.ci)) ?_
  refine ae rfl (aF Tryz.call198 rfl (Do W0 _ i (by omega))) ?_
  rintro _ B_ ⟨cb, rfl, hB_⟩
  obtain rfl := hB_.symm
  refine au 13 ?_
  refine b0 (bN xH rfl rfl rfl (by rw [hc2.len]; decide) rfl) ?_
  rintro _ _ rfl
  refine au 3 ?_
  refine kB (b := gb) (RgC i pv) (hc2.set (by decide) (by decide)) fun cs3 hc3 => ?_
  refine au 2 ?_
  refine aa rfl (mt Tryz.underlying219 Tryz.sizeOf218 Tryz.zeroValue219 rfl) ?_
  refine au 2 ?_
  refine b0 (iD xI rfl rfl rfl rfl (by rw [hc3.len]; decide) rfl) ?_
  rintro _ _ rfl
  refine au 3 ?_
  refine kB (b := gb) (RgC i pv) (hc3.setR (by decide)) fun cs4 hc4 => ?_
  refine au 2 ?_
  refine aa rfl (bI Tryz.underlying363 Tryz.zeroValue363 (aA eM (aA Tryz.sizeOf361 (aA Tryz.sizeOf299 bH))) bG) ?_
  refine ae rfl (bw rfl) ?_
  rintro _ _ ⟨b2, rfl, rfl⟩
  refine au 2 ?_
  refine b0 (bN xJ rfl rfl rfl (by rw [hc4.len]; decide) rfl) ?_
  rintro _ _ rfl
  refine au 3 ?_
  refine kB (b := gb) (RgC i pv) (hc4.set (by decide) (by decide)) fun cs5 hc5 => ?_
  refine au 2 ?_
  refine aa rfl (bI Tryz.underlying366 Tryz.zeroValue366 (aA Tryz.sizeOf364 bH) bG) ?_
  refine ae rfl (bw rfl) ?_
  rintro _ _ ⟨b3, rfl, rfl⟩
  refine au 2 ?_
  refine b0 (bN xK rfl rfl rfl (by rw [hc5.len]; decide) rfl) ?_
  rintro _ _ rfl
  refine au 3 ?_
  refine kB (b := gb) (RgC i pv) (hc5.set (by decide) (by decide)) fun cs6 hc6 => ?_
  refine au 4 ?_
  refine b0 (bN cu rfl rfl rfl (by rw [hc6.len]; decide) rfl) ?_
  rintro _ _ rfl
  refine au 3 ?_
  refine kB (b := gb) (RgC i pv) (hc6.set (by decide) (by decide)) fun cs7 hc7 => ?_
  refine au 2 ?_
  refine aa rfl (mt hJ cg lV rfl) ?_
  refine au 2 ?_
  refine b0 (iD eh rfl rfl rfl rfl (by rw [hc7.len]; decide) rfl) ?_
  rintro _ _ rfl
  refine au 3 ?_
  refine kB (b := gb) (RgC i pv) (hc7.setR (by decide)) fun cs8 hc8 => ?_
  refine au 5 ?_
  refine ah (.inl rfl) (.cons (ac rfl) .nil) ?_
  exact ⟨_, ⟨rfl, cs8, hc8, rfl⟩, inferInstance⟩
@[reducible] def sf (c : Cfg) (i : Nat) (wv : Value) (pb bb : Nat) : List Value := [.int .i64 c.cats, .slice c.ga c.gl.length c.gc, .slice c.ra c.rl.length c.rc, .slice c.pa c.pl.length c.pc, .slice c.na c.nl.length c.nc, .slice c.sa c.sl.length c.sc, .int .i64 c.gate, .int .i64 c.quota, .int .i64 i, wv, pV pb, .pointer none, .pointer none, .pointer none, .int .u32 0, .int .u32 0, .int .u32 0, .int .i64 0, .bool false, .int .i64 0, .int .i64 0, .int .i64 0, .int .u32 0, .int .u32 0, .int .u32 0, .int .i64 0, .bool false, .int .i64 0, .int .i64 0, .int .i64 0, .int .u32 0, .int .u32 0, .int .u32 0, .int .i64 0, .bool false, .int .i64 0, .int .i64 0, .int .i64 0, .pointer none, .pointer none, pV bb, .slice none 0 0, .int .i64 0, .bool false, .int .u32 0, .int .u32 0, .int .u32 0, .int .u32 0]
theorem Dq {S : World → Prop} {N : FSz} {e : bq} {o0 o1 o2 o3 o4 : Operand} {i pb bb : Nat} {c : Cfg} {wv : Value} (hw : wv.oneCell' = true) (h0 : ev e o0 = some (.agg (bF c).toArray)) (h1 : ev e o1 = some (.int .i64 i)) (h2 : ev e o2 = some wv) (h3 : ev e o3 = some (pV pb)) (h4 : ev e o4 = some (pV bb)) :
  bP Tryz.prog S N e (.build 223 #[(0, o0), (1, o1), (2, o2), (3, o3), (10, o4)]) (.agg (sf c i wv pb bb).toArray) :=
 bI (l' := sf c i wv pb bb) jQ Tryz.zeroValue223 (aA dM (aA ar (aA np (aA nu (aA xG (aA xH (aA pn (aA xI (aA xJ (aA xK (aA Tryz.sizeOf206 (aA kG (aA ar (aA cu (aA eh bH)))))))))))))))
  (i5 (l' := [.int .i64 c.cats, .slice c.ga c.gl.length c.gc, .slice c.ra c.rl.length c.rc, .slice c.pa c.pl.length c.pc, .slice c.na c.nl.length c.nc, .slice c.sa c.sl.length c.sc, .int .i64 c.gate, .int .i64 c.quota, .int .i64 0, .slice none 0 0, .pointer none, .pointer none, .pointer none, .pointer none, .int .u32 0, .int .u32 0, .int .u32 0, .int .i64 0, .bool false, .int .i64 0, .int .i64 0, .int .i64 0, .int .u32 0, .int .u32 0, .int .u32 0, .int .i64 0, .bool false, .int .i64 0, .int .i64 0, .int .i64 0, .int .u32 0, .int .u32 0, .int .u32 0, .int .i64 0, .bool false, .int .i64 0, .int .i64 0, .int .i64 0, .pointer none, .pointer none, .pointer none, .slice none 0 0, .int .i64 0, .bool false, .int .u32 0, .int .u32 0, .int .u32 0, .int .u32 0]) rfl dM h0 rfl (Nat.le_of_ble_eq_true rfl) rfl
  (aS (l' := [.int .i64 c.cats, .slice c.ga c.gl.length c.gc, .slice c.ra c.rl.length c.rc, .slice c.pa c.pl.length c.pc, .slice c.na c.nl.length c.nc, .slice c.sa c.sl.length c.sc, .int .i64 c.gate, .int .i64 c.quota, .int .i64 i, .slice none 0 0, .pointer none, .pointer none, .pointer none, .pointer none, .int .u32 0, .int .u32 0, .int .u32 0, .int .i64 0, .bool false, .int .i64 0, .int .i64 0, .int .i64 0, .int .u32 0, .int .u32 0, .int .u32 0, .int .i64 0, .bool false, .int .i64 0, .int .i64 0, .int .i64 0, .int .u32 0, .int .u32 0, .int .u32 0, .int .i64 0, .bool false, .int .i64 0, .int .i64 0, .int .i64 0, .pointer none, .pointer none, .pointer none, .slice none 0 0, .int .i64 0, .bool false, .int .u32 0, .int .u32 0, .int .u32 0, .int .u32 0]) rfl ar h1 rfl (Nat.le_of_ble_eq_true rfl) rfl
  (aS (l' := [.int .i64 c.cats, .slice c.ga c.gl.length c.gc, .slice c.ra c.rl.length c.rc, .slice c.pa c.pl.length c.pc, .slice c.na c.nl.length c.nc, .slice c.sa c.sl.length c.sc, .int .i64 c.gate, .int .i64 c.quota, .int .i64 i, wv, .pointer none, .pointer none, .pointer none, .pointer none, .int .u32 0, .int .u32 0, .int .u32 0, .int .i64 0, .bool false, .int .i64 0, .int .i64 0, .int .i64 0, .int .u32 0, .int .u32 0, .int .u32 0, .int .i64 0, .bool false, .int .i64 0, .int .i64 0, .int .i64 0, .int .u32 0, .int .u32 0, .int .u32 0, .int .i64 0, .bool false, .int .i64 0, .int .i64 0, .int .i64 0, .pointer none, .pointer none, .pointer none, .slice none 0 0, .int .i64 0, .bool false, .int .u32 0, .int .u32 0, .int .u32 0, .int .u32 0]) rfl np h2 hw (Nat.le_of_ble_eq_true rfl) rfl
  (aS (l' := [.int .i64 c.cats, .slice c.ga c.gl.length c.gc, .slice c.ra c.rl.length c.rc, .slice c.pa c.pl.length c.pc, .slice c.na c.nl.length c.nc, .slice c.sa c.sl.length c.sc, .int .i64 c.gate, .int .i64 c.quota, .int .i64 i, wv, pV pb, .pointer none, .pointer none, .pointer none, .int .u32 0, .int .u32 0, .int .u32 0, .int .i64 0, .bool false, .int .i64 0, .int .i64 0, .int .i64 0, .int .u32 0, .int .u32 0, .int .u32 0, .int .i64 0, .bool false, .int .i64 0, .int .i64 0, .int .i64 0, .int .u32 0, .int .u32 0, .int .u32 0, .int .i64 0, .bool false, .int .i64 0, .int .i64 0, .int .i64 0, .pointer none, .pointer none, .pointer none, .slice none 0 0, .int .i64 0, .bool false, .int .u32 0, .int .u32 0, .int .u32 0, .int .u32 0]) rfl nu h3 rfl (Nat.le_of_ble_eq_true rfl) rfl
  (aS (l' := [.int .i64 c.cats, .slice c.ga c.gl.length c.gc, .slice c.ra c.rl.length c.rc, .slice c.pa c.pl.length c.pc, .slice c.na c.nl.length c.nc, .slice c.sa c.sl.length c.sc, .int .i64 c.gate, .int .i64 c.quota, .int .i64 i, wv, pV pb, .pointer none, .pointer none, .pointer none, .int .u32 0, .int .u32 0, .int .u32 0, .int .i64 0, .bool false, .int .i64 0, .int .i64 0, .int .i64 0, .int .u32 0, .int .u32 0, .int .u32 0, .int .i64 0, .bool false, .int .i64 0, .int .i64 0, .int .i64 0, .int .u32 0, .int .u32 0, .int .u32 0, .int .i64 0, .bool false, .int .i64 0, .int .i64 0, .int .i64 0, .pointer none, .pointer none, pV bb, .slice none 0 0, .int .i64 0, .bool false, .int .u32 0, .int .u32 0, .int .u32 0, .int .u32 0]) rfl Tryz.sizeOf206 h4 rfl (Nat.le_of_ble_eq_true rfl) rfl
  bG)))))
theorem sg {R : List HP} {qs c : Nat} {a : Option Addr} {fr : List bJ} {vs : List Value} (hv : vs.length = fr.length) : Ent (pt qs (aj [.slice a fr.length c] 182) :: osl 148 1 (.slice a fr.length c) vs :: ((vs.zip fr).map dL ++ R)) (cq qs fr :: R) := kv (vs := vs) hv rfl
theorem Dr (W0 : World) (R : List HP) (c : Cfg) (h : CfK W0 c) (hr : rt c = true) (i : Nat) (hi : i < c.gl.length) (qs pb : Nat) (fr : List bJ) (po : Po) (hF : dJ fr) (hP : PoOk po) (hl : po.length = fr.length) (h0 : 0 < fr.length) (hfre : (cA c i).2.1 ≤ ((bB po i).length : Int))
  (a : Option Addr) (cap : Nat) (ws : List Nat) (hs : ∀ A, bT (bu W0 A) a 1 ix ws) (hb : ∀ y ∈ ws, y < 4294967296) (hn : ws.length < 9223372036854775808) (hcap : ws.length ≤ cap) :
  ao Tryz.prog W0 30 [.agg (bF c).toArray, .int .i64 i, pV qs, pV pb, .slice a ws.length cap] (cB pb (qs, po) :: cq qs fr :: R)
   (fun v B => ∃ gb, v = .tuple #[pV gb, .int .i64 0] ∧ B = cB pb (qs, (laid c i ws fr po).po) :: cq qs (laid c i ws fr po).fr :: R) := by
 have hR := eQ hr
 have hg4 := hR.g4
 have hnn := hR.nn
 have hok1 : ImOk (laid c i ws fr po) := ki (by omega) ⟨hF, hP, oV, hl⟩
 refine aD Tryz.func30 Tryz.ntmps30 rfl rfl ?_
 refine au 2 ?_
 refine ae rfl (bw rfl) ?_
 rintro _ _ ⟨b5, rfl, rfl⟩
 refine au 8 ?_
 refine ae rfl (aF tn rfl (oK W0 _ c h.ok)) ?_
 rintro _ B_ ⟨rfl, hB_⟩
 obtain rfl := hB_.symm
 rw [hr]
 refine au 2 ?_
 refine aZ rfl rfl rfl ?_ ?_
 ·intro g1_4
  exact absurd g1_4 (by decide)
 ·intro g1_4
  refine au 5 ?_
  refine aZ rfl rfl rfl ?_ ?_
  ·intro g1_8
   omega
  ·intro g1_8
   refine au 12 ?_
   refine ai rfl ?_ ?_
   ·intro c1
    omega
   ·intro c1
    refine au 4 ?_
    refine ku (qs := qs) fun a2 c2 vs hv => ?_
    refine au 4 ?_
    refine aZ rfl rfl rfl ?_ ?_
    ·intro g3_3
     cases g3_3
    ·intro g3_3
     refine au 13 ?_
     refine aZ rfl rfl rfl ?_ ?_
     ·intro g3_11
      omega
     ·intro g3_11
      refine au 6 ?_
      refine ai rfl ?_ ?_
      ·intro c3
       cases c3
      ·intro c3
       refine au 3 ?_
       refine eN (sg hv) ?_
       refine au 5 ?_
       refine aa rfl (bI Tryz.underlying209 Tryz.zeroValue209 (aA lQ bH) bG) ?_
       refine ae rfl (bw rfl) ?_
       rintro _ _ ⟨bb, rfl, rfl⟩
       refine aa rfl (Dq rfl rfl rfl rfl rfl rfl) ?_
       refine ae rfl (bw rfl) ?_
       rintro _ _ ⟨gb, rfl, rfl⟩
       refine au 7 ?_
       refine aa rfl (bI pw Tryz.zeroValue230 (aA sI (aA mX bH)) bG) ?_
       refine ae rfl (bw rfl) ?_
       rintro _ _ ⟨pm, rfl, rfl⟩
       refine aa rfl (bI sR Tryz.zeroValue232 (aA jP (aA sH (aA sI bH))) (aS rfl jP rfl rfl (Nat.le_of_ble_eq_true rfl) SetL.eq (aS rfl sH rfl rfl (Nat.le_of_ble_eq_true rfl) SetL.eq bG))) ?_
       refine ae rfl (bw rfl) ?_
       rintro _ _ ⟨pv, rfl, rfl⟩
       refine au 2 ?_
       refine b0 (bN pn rfl rfl rfl (Nat.le_of_ble_eq_true rfl) SetL.eq) ?_
       rintro _ _ rfl
       refine au 3 ?_
       refine il (b := pm) (o' := fW ic) rfl ?_
       refine il (b := pv) (o' := lu qs pm 0) rfl ?_
       refine il (b := gb) (o' := aj ((sf c i (.slice a ws.length cap) pb bb).set 13 (pV pv)) 223) rfl ?_
       refine au 2 ?_
       refine ae rfl (qH Tryz.call84 rfl (Dp W0 _ c h hr i hi gb pv pm pb qs fr po hF hP hl h0 hfre a cap ws hs hb hn hcap _ ⟨rfl, rfl, rfl⟩ rfl rfl rfl)) ?_
       rintro _ _ ⟨rfl, cs, hcs, rfl⟩
       refine au 10 ?_
       refine ai rfl ?_ ?_
       ·intro c8
        exact absurd c8 (by decide)
       ·intro c8
        refine au 9 ?_
        refine ce (fun X : Nat × List Pl => X.1 ≤ c.nl.length ∧ Pgs X.2) (fun X => [(1, .int .i64 i), (5, pV b5), (12, pV gb), (14, .int .i64 X.1)]) (fun X => pt b5 (cJ c) :: pt gb (aj cs 223) :: pt pv (lu qs pm 0) :: pt pm (fW X.2) :: cB pb (qs, (laid c i ws fr po).po) :: cq qs (laid c i ws fr po).fr :: R) (fun X => c.nl.length - X.1) (0, (laid c i ws fr po).pg) ?_ ?_ ?_ ?_
        ·exact ⟨Nat.zero_le _, hok1.pg⟩
        ·repeat (first | exact aJ | refine aG rfl ?_)
        ·exact inferInstance
        ·intro ⟨k, pg⟩ ⟨hk, hpg⟩
         dsimp only at hk hpg ⊢
         refine au 10 ?_
         refine ai rfl ?_ ?_
         ·intro c11
          refine au 2 ?_
          refine gn (fun pg3 : List Pl => Pgs pg3 ∧ k < c.nl.length) (fun _ => [(1, .int .i64 i), (5, pV b5), (12, pV gb), (14, .int .i64 k)]) (fun pg3 => pt b5 (cJ c) :: pt gb (aj cs 223) :: pt pv (lu qs pm 0) :: pt pm (fW pg3) :: cB pb (qs, (laid c i ws fr po).po) :: cq qs (laid c i ws fr po).fr :: R) ?_ ?_
          ·skip
           refine au 2 ?_
           have hk1 : k < c.nl.length := by omega
           obtain ⟨g, o, hga, hc⟩ := (h.ok.n []).at_ hk1
           obtain ⟨x, hx⟩ : ∃ x, c.nl[k] = x := ⟨_, rfl⟩
           rw [hx] at hc
           refine au 3 ?_
           refine ae rfl (aF Tryz.call85 rfl (CK W0 _ c h.ok hr k (by omega) (by omega))) ?_
           rintro _ B_ ⟨rfl, hB_⟩
           obtain rfl := hB_.symm
           refine au 3 ?_
           refine gn (fun pg2 : List Pl => Pgs pg2 ∧ k < c.nl.length) (fun _ => [(1, .int .i64 i), (5, pV b5), (12, pV gb), (14, .int .i64 k), (15, .int .i64 (fy c k))]) (fun pg2 => pt b5 (cJ c) :: pt gb (aj cs 223) :: pt pv (lu qs pm 0) :: pt pm (fW pg2) :: cB pb (qs, (laid c i ws fr po).po) :: cq qs (laid c i ws fr po).fr :: R) ?_ ?_
           ·skip
            refine au 5 ?_
            refine aa rfl (di gk dT rfl hga rfl rfl hk1 (by first | exact Nat.zero_add _ | rfl)) ?_
            refine aa rfl (ap rfl fe rfl ar rfl (by first | exact Nat.zero_add _ | rfl)) ?_
            refine aa rfl (am aT rfl (hc.weak 0 _ rfl)) ?_
            refine au 4 ?_
            refine ai rfl ?_ ?_
            ·intro c14
             refine au 4 ?_
             refine aa rfl (am tt rfl (aH hcs.cv)) ?_
             refine au 4 ?_
             refine aa rfl (bj rfl rfl (by rw [aK (by omega)]; omega : IntKind.wrap .i64 (8 + (k : Int)) = ((8 + k : Nat) : Int))) ?_
             refine aa rfl (ag rfl) (aa rfl (bI jr iO (aA ar (aA ar bH)) (aS rfl ar rfl rfl (Nat.le_of_ble_eq_true rfl) SetL.eq (aS rfl ar rfl rfl (Nat.le_of_ble_eq_true rfl) SetL.eq bG))) ?_)
             refine ae rfl (aM yf rfl (rM W0 _ pm pg hpg (8 + k : Nat) (fy c k, 3))) ?_
             rintro _ B_ ⟨rfl, hB_⟩
             obtain rfl := hB_.symm
             refine au 2 ?_
             refine d8 (dY pg ((8 + k : Nat) : Int) (fy c k, 3)) ?_ ?_ ?_
             ·exact ⟨nZ hpg, hk1⟩
             ·repeat (first | exact aJ | refine aG rfl ?_)
             ·exact inferInstance
            ·intro c14
             refine au 2 ?_
             refine d8 pg ?_ ?_ ?_
             ·exact ⟨hpg, hk1⟩
             ·repeat (first | exact aJ | refine aG rfl ?_)
             ·exact inferInstance
           ·intro pg2 ⟨hpg2, hk1⟩
            refine al ?_
            obtain ⟨g, o, hga, hc⟩ := (h.ok.n []).at_ hk1
            obtain ⟨x, hx⟩ : ∃ x, c.nl[k] = x := ⟨_, rfl⟩
            rw [hx] at hc
            refine au 4 ?_
            refine aa rfl (di gk dT rfl hga rfl rfl hk1 (by first | exact Nat.zero_add _ | rfl)) ?_
            refine aa rfl (ap rfl fe rfl ar rfl (by first | exact Nat.zero_add _ | rfl)) ?_
            refine aa rfl (am aT rfl (hc.weak 1 _ rfl)) ?_
            refine au 4 ?_
            refine ai rfl ?_ ?_
            ·intro c16
             refine au 4 ?_
             refine aa rfl (am tt rfl (aH hcs.cv)) ?_
             refine au 4 ?_
             refine aa rfl (bj rfl rfl (by rw [aK (by omega)]; omega : IntKind.wrap .i64 (8 + (k : Int)) = ((8 + k : Nat) : Int))) ?_
             refine aa rfl (ag rfl) (aa rfl (bI jr iO (aA ar (aA ar bH)) (aS rfl ar rfl rfl (Nat.le_of_ble_eq_true rfl) SetL.eq (aS rfl ar rfl rfl (Nat.le_of_ble_eq_true rfl) SetL.eq bG))) ?_)
             refine ae rfl (aM yf rfl (rM W0 _ pm pg2 hpg2 (8 + k : Nat) (fy c k, 1))) ?_
             rintro _ B_ ⟨rfl, hB_⟩
             obtain rfl := hB_.symm
             refine au 3 ?_
             refine d8 (dY pg2 ((8 + k : Nat) : Int) (fy c k, 1)) ?_ ?_ ?_
             ·exact ⟨nZ hpg2, hk1⟩
             ·repeat (first | exact aJ | refine aG rfl ?_)
             ·exact inferInstance
            ·intro c16
             refine au 3 ?_
             refine d8 pg2 ?_ ?_ ?_
             ·exact ⟨hpg2, hk1⟩
             ·repeat (first | exact aJ | refine aG rfl ?_)
             ·exact inferInstance
          ·intro pg3 ⟨hpg3, hk1⟩
           refine au 2 ?_
           refine aa rfl (bj rfl rfl (by first | exact aK (by omega) | rfl)) ?_
           refine au 3 ?_
           refine bU (k + 1, pg3) ?_ ?_ ?_ ?_
           ·exact ⟨by omega, hpg3⟩
           ·show c.nl.length - (k + 1) < c.nl.length - k; omega
           ·repeat (first | exact aJ | refine aG rfl ?_)
           ·exact inferInstance
         ·intro c11
          refine au 13 ?_
          refine ah (.inl rfl) (.cons (ac rfl) (.cons (ac rfl) .nil)) ?_
          exact ⟨_, ⟨gb, rfl, rfl⟩, inferInstance⟩
def mQ (ps : List Prt) : Prop := lf ps ∧ ∀ x ∈ ps, ∀ s ∈ x.l, s.size ≤ 32
theorem mQ.at_ {ps : List Prt} (h : mQ ps) {i : Nat} (hi : i < ps.length) : ∀ s ∈ (ps.getD i default).l, s.size ≤ 32 := by
 rw [show ps.getD i default = ps[i] by simp [List.getD, hi]]; exact h.2 _ (List.getElem_mem hi)
theorem mQ.set {ps : List Prt} (h : mQ ps) {i : Nat} {x : Prt} (hx : x.l.length ≤ ou x) (hs : ∀ s ∈ x.l, s.size ≤ 32) : mQ (ps.set i x) := ⟨h.1.set hx, fun y hy => by
 rcases List.mem_or_eq_of_mem_set hy with q | q
 ·exact h.2 y q
 ·rw [q]; exact hs⟩
structure SvS where
  fr : List bJ
  d : Nat
  s : QS
  ps : List Prt
  c : Nat
  n : Nat
  b : Nat
  w : Int
@[reducible] def SvS.v (x : SvS) : List Value := [.int .i64 x.c, .int .i64 x.n, .int .i64 x.b, .int .i64 x.w]
structure SbS where
  fr : List bJ
  d : Nat
  s : QS
  x : Dk
  c : Nat
  n : Nat
  b : Nat
  w : Int
@[reducible] def SbS.v (x : SbS) : List Value := [.int .i64 x.c, .int .i64 x.n, .int .i64 x.b, .int .i64 x.w]
def jL (x : Rn) : List Value := [.int .i64 x.1, .int .i64 x.2.1, .int .i64 x.2.2]
def ez (rs : List Rn) : Nat → Option (List Rn × List Int)
  | 0 => some ([], [])
  | k + 1 => (ez rs k).bind fun y => if dh (rs.getD k (0, 0, 0)).1 = true ∧ da y.1 32 (rs.getD k (0, 0, 0)).2.1 (rs.getD k (0, 0, 0)).2.2 k = 0 then some (dS y.1 32 (rs.getD k (0, 0, 0)).2.1 (rs.getD k (0, 0, 0)).2.2 k, y.2 ++ [(rs.getD k (0, 0, 0)).1]) else none
def eA (rs : List Rn) : Option Dk := if 8 < rs.length then none else (ez rs rs.length).map fun y => ⟨y.1, y.2, List.replicate 32 gz⟩
theorem oX {rs : List Rn} {i : Nat} (h : ez rs i = none) : ∀ {k : Nat}, i ≤ k → ez rs k = none := by
 intro k hk
 induction k with
 | zero => rwa [show i = 0 by omega] at h
 | succ k ih =>
  rcases Nat.lt_or_ge i (k + 1) with q | q
  ·rw [ez, ih (by omega)]; rfl
  ·rwa [show i = k + 1 by omega] at h
theorem Ds {rs : List Rn} {n f k w m : Int} (h : ∀ x ∈ rs, 0 ≤ x.2.2 ∧ x.2.2 < m) (hm : 0 ≤ w ∧ w ≤ m) : ∀ x ∈ dS rs n f k w, 0 ≤ x.2.2 ∧ x.2.2 < m + 1 := by
 unfold dS; split
 ·intro x hx
  rw [fv] at hx
  rcases List.mem_append.1 hx with q | q
  ·have := h x (List.mem_of_mem_take q); omega
  ·rcases List.mem_cons.1 q with rfl | q
   ·show 0 ≤ w ∧ w < m + 1; omega
   ·have := h x (List.mem_of_mem_drop q); omega
 ·intro x hx
  have := h x hx; omega
structure DnOk (k : Nat) (y : List Rn × List Int) : Prop where
  tb : iG y.1
  rl : y.1.length ≤ k
  ll : y.2.length = k
  wh : ∀ x ∈ y.1, 0 ≤ x.2.2 ∧ x.2.2 < (k : Int)
theorem wO (rs : List Rn) : ∀ {k : Nat} {y : List Rn × List Int}, ez rs k = some y → DnOk k y
 | 0, y, h => by cases h; exact ⟨fun x hx => by simp at hx, Nat.le_refl _, rfl, fun x hx => by simp at hx⟩
 | k + 1, y, h => by
  rw [ez] at h
  cases e : ez rs k with
  | none => rw [e] at h; cases h
  | some z =>
   rw [e] at h
   obtain ⟨h1, h2, h3, h4⟩ := wO rs e
   have h' : (if dh (rs.getD k (0, 0, 0)).1 = true ∧ da z.1 32 (rs.getD k (0, 0, 0)).2.1 (rs.getD k (0, 0, 0)).2.2 k = 0 then some (dS z.1 32 (rs.getD k (0, 0, 0)).2.1 (rs.getD k (0, 0, 0)).2.2 k, z.2 ++ [(rs.getD k (0, 0, 0)).1]) else none) = some y := h
   split at h'
   ·cases h'
    refine ⟨rx h1 (by decide), Nat.le_trans vo (by omega), by rw [List.length_append, h3]; rfl, fun x hx => ?_⟩
    have := Ds h4 (by omega) x hx
    omega
   ·cases h'
theorem Dt : mG (List.replicate 32 gz) = fun _ => none := by
 funext k
 unfold mG rN
 have e : (List.replicate 32 gz).getD k.toNat gz = gz := by
  simp only [List.getD, List.getElem?_replicate]
  split <;> rfl
 rw [e, if_pos rfl]; simp
theorem Du (W0 : World) (R : List HP) (a : Option Addr) (c : Nat) (rs : List Rn) (hs : bT (bu W0 R) a 3 jL rs) (hl : rs.length < 9223372036854775808) :
  ao Tryz.prog W0 165 [.slice a rs.length c] R
   (fun v B => ∃ p Y, v = .tuple #[.pointer p, .int .i64 (if (eA rs).isSome then 0 else 14)] ∧ B = Y ++ R ∧ (eA rs = none → p = none ∧ Y = []) ∧ (∀ x, eA rs = some x → ∃ d, p = some ⟨d, 0, none⟩ ∧ Y = [jI d x])) := by
 have hno : ∀ {p : Option Addr} {Y : List HP} (h : eA rs = none), p = none → Y = [] → (eA rs = none → p = none ∧ Y = []) ∧ (∀ x, eA rs = some x → ∃ d, p = some ⟨d, 0, none⟩ ∧ Y = [jI d x]) := fun h h1 h2 => ⟨fun _ => ⟨h1, h2⟩, fun x hx => by rw [h] at hx; cases hx⟩
 refine d5 Tryz.func165 Tryz.ntmps165 rfl rfl ?_
 refine al (az (aa rfl (ax rfl) (aa rfl (ax rfl) (aw (ak (al (al (az (aa rfl (ag rfl) (aa rfl (dU gX rfl) (aa rfl (iP rfl rfl) (aw (ak ?_)))))))))))))
 refine ai rfl ?_ ?_
 ·intro c1
  refine al (az (aa rfl (ax rfl) (aa rfl (ax rfl) (aw (ak (bY (cn (ah (.inl rfl) (.cons (ac rfl) (.cons (ac rfl) .nil)) ?_))))))))
  have hN : eA rs = none := by rw [eA, if_pos (by omega)]
  rw [hN]
  refine ⟨_, ⟨none, [], rfl, rfl, hno hN rfl rfl |>.1 |> fun q => (fun _ => ⟨rfl, rfl⟩), (fun x hx => by cases hx)⟩, ?_⟩
  simp only [List.nil_append]
  exact inferInstance
 ·intro c1
  refine cy (ak (al ?_))
  have h8 : rs.length ≤ 8 := by omega
  have hD : eA rs = (ez rs rs.length).map fun y => ⟨y.1, y.2, List.replicate 32 gz⟩ := by rw [eA, if_neg (by omega)]
  refine az ?_
  refine ae rfl (aF Tryz.call260 rfl (vn W0 _ 32 (by decide))) ?_
  rintro _ B_ ⟨bt, rfl, hB_⟩
  obtain rfl := hB_.symm
  refine aa rfl (ag rfl) (aa rfl (bZ rfl rfl) (aa rfl (bZ rfl rfl) (aa rfl (ax rfl) (aa rfl (ax rfl) (aw (ak (al (az (aa rfl (ag rfl) (ae rfl (Bn) ?_))))))))))
  rintro _ _ ⟨bm, rfl, rfl⟩
  refine aa rfl (bI tu Tryz.zeroValue408 (aA y3 (aA eM (aA Tryz.sizeOf406 bH))) (aS rfl y3 rfl rfl (Nat.le_of_ble_eq_true rfl) SetL.eq (aS rfl Tryz.sizeOf406 rfl rfl (Nat.le_of_ble_eq_true rfl) SetL.eq bG))) ?_
  refine ae rfl (bw rfl) ?_
  rintro _ _ ⟨d, rfl, rfl⟩
  refine aa rfl (ax rfl) (aw (ak (al (al (az (aa rfl (ag rfl) (aa rfl (dU gX rfl) (aa rfl (ag rfl) (aw (ak (dt ?_)))))))))))
  refine ce (fun X : Nat × List Rn × List Int × Option Addr × Nat => X.1 ≤ rs.length ∧ ez rs X.1 = some (X.2.1, X.2.2.1)) (fun X => [(4, .pointer (some ⟨bt, 0, none⟩)), (6, .pointer (some ⟨d, 0, none⟩)), (20, .slice a rs.length c), (21, .int .i64 rs.length), (22, .int .i64 X.1)]) (fun X => pt d (mH bt bm X.2.2.2.1 X.2.2.1.length X.2.2.2.2) :: gy bt (X.2.1, 32) :: osl 3 1 (.slice X.2.2.2.1 X.2.2.1.length X.2.2.2.2) (X.2.2.1.flatMap ee) :: kt bm (fun _ => none) :: R) (fun X => rs.length - X.1) (0, [], [], none, 0) ?_ ?_ ?_ ?_
  ·exact ⟨Nat.zero_le _, rfl⟩
  ·repeat (first | exact aJ | refine aG rfl ?_)
  ·show Ent _ (pt d (mH bt bm none 0 0) :: gy bt ([], 32) :: osl 3 1 (.slice none 0 0) [] :: kt bm (fun _ => none) :: R)
   exact (fj (E := 3) (sz := 1) (k := ent_refl)).trans inferInstance
  ·intro ⟨k, t, lb, aL, cL⟩ ⟨hk, hdn⟩
   dsimp only at hk hdn ⊢
   obtain ⟨h1, h2, h3, h4⟩ := wO rs hdn
   dsimp only at h1 h2 h3 h4
   refine al (az (aa rfl (eO rfl rfl) (aw (ak (al ?_)))))
   refine ai rfl ?_ ?_
   ·intro c6
    refine cy (ak (al (dt (al ?_))))
    have hk1 : k < rs.length := by omega
    obtain ⟨g, o, rfl, hc⟩ := hs.at_ hk1
    have hgk : rs.getD k (0, 0, 0) = rs[k] := by simp [List.getD, hk1]
    obtain ⟨x, hx⟩ : ∃ x, rs[k] = x := ⟨_, rfl⟩
    rw [hx] at hc hgk
    have hst : ez rs (k + 1) = if dh x.1 = true ∧ da t 32 x.2.1 x.2.2 k = 0 then some (dS t 32 x.2.1 x.2.2 k, lb ++ [x.1]) else none := by
     rw [ez, hdn, hgk]; rfl
    refine az (aa rfl (ag rfl) ?_)
    refine aa rfl (bM gX ij rfl rfl rfl hk1 (by first | exact Nat.zero_add _ | rfl)) ?_
    refine aa rfl (cj y2 ij rfl hc.weak rfl) ?_
    refine ae rfl (cd pE) ?_
    rintro _ _ ⟨br, rfl, rfl⟩
    refine aa rfl (ax rfl) (b0 (bS ij rfl rfl rfl rfl rfl) ?_)
    rintro _ _ rfl
    refine aw (ak (al (al (az ?_))))
    refine aa rfl (ap rfl gZ rfl ar rfl (by first | exact Nat.zero_add _ | rfl)) ?_
    refine aa rfl (am aT rfl (aH rfl)) ?_
    refine ae rfl (aF Tryz.call167 rfl (uR W0 _ x.1)) ?_
    rintro _ B_ ⟨m, rfl, hm, hB_⟩
    obtain rfl := hB_.symm
    refine aa rfl (eO rfl rfl) (aa rfl (ag rfl) ?_)
    refine aZ rfl rfl rfl ?_ ?_
    ·intro g8_5
     refine bK rfl rfl rfl rfl (bK rfl rfl rfl rfl (bK rfl rfl rfl rfl (bK rfl rfl rfl rfl (bK rfl rfl rfl rfl (bK rfl rfl rfl rfl (bK rfl rfl rfl rfl (aa rfl (cV rfl rfl) (aw (ak (iT rfl (al (az (aa rfl (ax rfl) (aa rfl (ax rfl) (aw (ak (bY (cn (dO (cn (cn (dO (cn ?_)))))))))))))))))))))))
     refine ah (.inl rfl) (.cons (ac rfl) (.cons (ac rfl) .nil)) ?_
     have hS : ez rs (k + 1) = none := by
      rw [hst, if_neg]
      rintro ⟨q1, q2⟩
      first
       | exact absurd q2 c8
       | (rw [q1] at hm; simp at hm; omega)
     have hN : eA rs = none := by rw [hD, oX hS hk1]; rfl
     rw [hN]
     refine ⟨_, ⟨none, [], rfl, rfl, (fun _ => ⟨rfl, rfl⟩), (fun x hx => by cases hx)⟩, ?_⟩
     simp only [List.nil_append]
     exact inferInstance
    ·intro g8_5
     refine aa rfl (ag rfl) (aY rfl rfl ?_)
     refine aa rfl (ap rfl gZ rfl ar rfl (by first | exact Nat.zero_add _ | rfl)) ?_
     refine aY rfl rfl (aa rfl (am aT rfl (aH rfl)) ?_)
     refine aY rfl rfl ?_
     refine aa rfl (ap rfl gZ rfl ar rfl (by first | exact Nat.zero_add _ | rfl)) ?_
     refine aY rfl rfl (aa rfl (am aT rfl (aH rfl)) ?_)
     refine aY rfl rfl (aa rfl (ag rfl) (aY rfl rfl ?_))
     refine ae rfl (aM Tryz.call262 rfl (vp W0 _ bt t 32 (by decide) h1 (by omega) x.2.1 x.2.2 k)) ?_
     rintro _ B_ ⟨rfl, hB_⟩
     obtain rfl := hB_.symm
     refine aY rfl rfl (aa rfl (du rfl rfl) (aa rfl (d4 rfl rfl) (aw (ak ?_))))
     refine ai rfl ?_ ?_
     ·intro c8
      refine al (az (aa rfl (ax rfl) (aa rfl (ax rfl) (aw (ak (bY (cn (dO (cn (cn (dO (cn (ah (.inl rfl) (.cons (ac rfl) (.cons (ac rfl) .nil)) ?_)))))))))))))
      have hS : ez rs (k + 1) = none := by
       rw [hst, if_neg]
       rintro ⟨q1, q2⟩
       first
        | exact absurd q2 c8
        | (rw [q1] at hm; simp at hm; omega)
      have hN : eA rs = none := by rw [hD, oX hS hk1]; rfl
      rw [hN]
      refine ⟨_, ⟨none, [], rfl, rfl, (fun _ => ⟨rfl, rfl⟩), (fun x hx => by cases hx)⟩, ?_⟩
      simp only [List.nil_append]
      exact inferInstance
     ·intro c8
      refine cy (ak ?_)
      have hgo : dh x.1 = true ∧ da t 32 x.2.1 x.2.2 k = 0 := by
       refine ⟨?_, by first | exact Decidable.not_not.1 c8 | simpa using c8⟩
       rw [← Bool.not_eq_false]; intro q
       rw [q] at hm; simp at hm; omega
      rw [if_pos hgo] at hst
      refine bR [(br, 0, _)] 12 bQ rfl (aC aB) (fun hS => ?_)
      refine ab 0 rfl rfl rfl hS (ag rfl) ?_
      refine ab 1 rfl rfl rfl hS (ag rfl) ?_
      refine ab 2 rfl rfl rfl hS (aU rfl) ?_
      refine ab 3 rfl rfl rfl hS (ap rfl tu rfl eM rfl (by first | exact Nat.zero_add _ | rfl)) ?_
      refine ab 5 rfl rfl rfl hS (ap rfl gZ rfl ar rfl (by first | exact Nat.zero_add _ | rfl)) ?_
      refine ab 6 rfl rfl rfl hS (am aT rfl (av (k := 0) rfl rfl)) ?_
      refine i6 (is := [4, 7]) (by kernel_rfl) rfl ⟨?_, ?_, trivial⟩
      ·skip
       refine ed rfl rfl (ec (am gV rfl (aH rfl))) rfl ?_; clear hS
       rintro _ _ ⟨rfl, rfl⟩
       refine ⟨(aC aB), fun hS => ?_⟩
       refine aW 7 (by kernel_rfl) rfl rfl (g6 dF ar lP rfl rfl rfl rfl rfl (by decide) (by decide)) rfl ?_; clear hS
       rintro _ _ ⟨b4, rfl, rfl⟩
       refine ⟨(aC aB), fun hS => ?_⟩
       refine aW 8 (by kernel_rfl) rfl rfl (dy (sz := 1) (by_ := 8) (info := Tryz.t3) dF (by kernel_rfl) rfl rfl rfl rfl (by decide) rfl rfl dz rfl rfl (by simp only [maxLen]; omega) (by omega)) rfl ?_; clear hS
       rintro _ _ ⟨aN, cN, rfl, rfl⟩
       refine ⟨(aC aB), fun hS => ?_⟩
       refine ab 9 rfl rfl rfl hS (aU rfl) ?_
       refine ab 10 rfl rfl rfl hS (ap rfl tu rfl eM rfl (by first | exact Nat.zero_add _ | rfl)) ?_
       refine aW 11 (by kernel_rfl) rfl rfl (bN eM rfl rfl rfl (Nat.le_of_ble_eq_true rfl) SetL.eq) rfl ?_; clear hS
       rintro _ _ rfl
       refine ⟨(aC aB), fun hS => ?_⟩
       refine bz (by kernel_rfl) ?_; clear hS
       refine fY (ak (az ?_))
       refine aa rfl (bj rfl rfl (by first | exact aK (by omega) | rfl)) ?_
       refine aa rfl (ag rfl) (aw (ak ?_))
       refine bU (k + 1, dS t 32 x.2.1 x.2.2 k, lb ++ [x.1], aN, cN) ?_ ?_ ?_ ?_
       ·exact ⟨by omega, hst⟩
       ·omega
       ·repeat (first | exact aJ | refine aG rfl ?_)
       ·dsimp only
        rw [show (lb ++ [x.1]).length = lb.length + 1 from List.length_append .., show (lb ++ [x.1]).flatMap ee = lb.flatMap ee ++ [Value.int .i64 x.1] by rw [List.flatMap_append]; rfl]
        exact inferInstance
      ·skip
       refine ed rfl rfl (g6 dF ar lP rfl rfl rfl rfl rfl (by decide) (by decide)) rfl ?_; clear hS
       rintro _ _ ⟨b4, rfl, rfl⟩
       refine ⟨(aC aB), fun hS => ?_⟩
       refine aW 4 (by kernel_rfl) rfl rfl (ec (am gV rfl (aH rfl))) rfl ?_; clear hS
       rintro _ _ ⟨rfl, rfl⟩
       refine ⟨(aC aB), fun hS => ?_⟩
       refine aW 8 (by kernel_rfl) rfl rfl (dy (sz := 1) (by_ := 8) (info := Tryz.t3) dF (by kernel_rfl) rfl rfl rfl rfl (by decide) rfl rfl dz rfl rfl (by simp only [maxLen]; omega) (by omega)) rfl ?_; clear hS
       rintro _ _ ⟨aN, cN, rfl, rfl⟩
       refine ⟨(aC aB), fun hS => ?_⟩
       refine ab 9 rfl rfl rfl hS (aU rfl) ?_
       refine ab 10 rfl rfl rfl hS (ap rfl tu rfl eM rfl (by first | exact Nat.zero_add _ | rfl)) ?_
       refine aW 11 (by kernel_rfl) rfl rfl (bN eM rfl rfl rfl (Nat.le_of_ble_eq_true rfl) SetL.eq) rfl ?_; clear hS
       rintro _ _ rfl
       refine ⟨(aC aB), fun hS => ?_⟩
       refine bz (by kernel_rfl) ?_; clear hS
       refine fY (ak (az ?_))
       refine aa rfl (bj rfl rfl (by first | exact aK (by omega) | rfl)) ?_
       refine aa rfl (ag rfl) (aw (ak ?_))
       refine bU (k + 1, dS t 32 x.2.1 x.2.2 k, lb ++ [x.1], aN, cN) ?_ ?_ ?_ ?_
       ·exact ⟨by omega, hst⟩
       ·omega
       ·repeat (first | exact aJ | refine aG rfl ?_)
       ·dsimp only
        rw [show (lb ++ [x.1]).length = lb.length + 1 from List.length_append .., show (lb ++ [x.1]).flatMap ee = lb.flatMap ee ++ [Value.int .i64 x.1] by rw [List.flatMap_append]; rfl]
        exact inferInstance
   ·intro c6
    refine gJ (eV (eV (i3 (ak (al (az (aa rfl (ag rfl) (aa rfl (ax rfl) (aa rfl (ax rfl) (aw (ak (bY (ah (.inl rfl) (.cons (ac rfl) (.cons (ac rfl) .nil)) ?_)))))))))))))
    obtain rfl : k = rs.length := by omega
    have hN : eA rs = some ⟨t, lb, List.replicate 32 gz⟩ := by rw [hD, hdn]; rfl
    rw [hN]
    refine ⟨_, ⟨_, [jI d ⟨t, lb, List.replicate 32 gz⟩], rfl, rfl, (fun q => by cases q), (fun x hx => by cases hx; exact ⟨d, rfl, rfl⟩)⟩, ?_⟩
    simp only [List.cons_append, List.nil_append]
    exact BM (x := ⟨t, lb, List.replicate 32 gz⟩) rfl rfl Dt.symm rfl
def fJ (p : Value × List ByteArray) : HP := osl 9 1 p.1 (uY p.2)
def eL (v : Value) (ls : List (List ByteArray)) : HP := chk (fun C => ∃ vs : List Value, vs.length = ls.length ∧ C = [osl 207 1 v vs, kH 2 (aX ((vs.zip ls).map fJ))])
section
variable {W0 : World} {N : FSz} {K : Act → World → Prop} {e : bq} {A B R R1 R2 R3 : List HP} {g n c : Nat} {a : Option Addr} {v : Value} {ls : List (List ByteArray)}
theorem oY [hk : Tk eL v A ls R] (h : ∀ vs : List Value, vs.length = ls.length → aE W0 N K e (osl 207 1 v vs :: kH 2 (aX ((vs.zip ls).map fJ)) :: R)) : aE W0 N K e A :=
 dP (r := eL) (b := v) (iU fun C hC => by obtain ⟨vs, h1, rfl⟩ := hC; exact h vs h1)
theorem Dv {vs : List Value} [h1 : Tk (osl 207 1) v A vs R1] [h2 : Tk kH 2 R1 (aX ((vs.zip ls).map fJ)) R2] (hv : vs.length = ls.length) [k : Ent R2 B] : Ent A (eL v ls :: B) := by
 have e1 : A.Perm ([osl 207 1 v vs, kH 2 (aX ((vs.zip ls).map fJ))] ++ R2) := h1.perm.trans (h2.perm.cons _)
 exact (Ent.ofPerm e1).trans ((eF (R := R2) ⟨vs, hv, rfl⟩).trans (Ent.cons k))
theorem wP [k : Ent A B] : Ent A (eL (.slice none 0 0) [] :: B) := by
 refine k.trans ?_
 have e1 : Ent B (kH 2 (aX ((List.zip ([] : List Value) ([] : List (List ByteArray))).map fJ)) :: B) := fC (A := [])
 have e2 : Ent (kH 2 (aX ((List.zip ([] : List Value) ([] : List (List ByteArray))).map fJ)) :: B) (osl 207 1 (.slice none 0 0) [] :: kH 2 (aX ((List.zip ([] : List Value) ([] : List (List ByteArray))).map fJ)) :: B) := fj
 exact e1.trans (e2.trans (eF (C := [osl 207 1 (.slice none 0 0) [], kH 2 (aX ((List.zip ([] : List Value) ([] : List (List ByteArray))).map fJ))]) (R := B) ⟨[], rfl, rfl⟩))
theorem Dw {vs : List Value} {x : Value} [h1 : Tk (osl 207 1) v A (vs ++ [x]) R1] [h2 : Tk kH 2 R1 (aX ((vs.zip ls).map fJ)) R2] (hx : x = .slice none 0 0) (hv : vs.length = ls.length) [k : Ent R2 B] : Ent A (eL v (ls ++ [[]]) :: B) := by
 subst hx
 have e1 : A.Perm (osl 207 1 v (vs ++ [Value.slice none 0 0]) :: kH 2 (aX ((vs.zip ls).map fJ)) :: R2) := h1.perm.trans (h2.perm.cons _)
 have e3 : ((vs ++ [Value.slice none 0 0]).zip (ls ++ [[]])).map fJ = (vs.zip ls).map fJ ++ [osl 9 1 (.slice none 0 0) []] := by
  rw [List.zip_append hv, List.map_append]; rfl
 have e4 : Ent (kH 2 (aX ((vs.zip ls).map fJ)) :: R2) (kH 2 (aX (((vs ++ [Value.slice none 0 0]).zip (ls ++ [[]])).map fJ)) :: R2) := by
  rw [e3]
  refine (hM (A := (vs.zip ls).map fJ) (R := R2)).trans ?_
  refine (fj (E := 9) (sz := 1) (B := (vs.zip ls).map fJ ++ R2)).trans ?_
  refine (Ent.ofPerm (B := ((vs.zip ls).map fJ ++ [osl 9 1 (.slice none 0 0) []]) ++ R2) ?_).trans fC
  rw [List.append_assoc]; exact List.perm_middle.symm
 exact (Ent.ofPerm e1).trans ((Ent.cons e4).trans (Dv (ls := ls ++ [[]]) (vs := vs ++ [.slice none 0 0]) (B := B) (by simp [hv]) (k := k)))
theorem oZ {vs : List Value} {x : Value} [h1 : Tk (osl 207 1) v A (vs ++ [x]) R1] [h2 : Tk kH 2 R1 (aX ((vs.zip ls).map fJ)) R2] (hx : x = .slice none 0 0) (hv : vs.length = ls.length) (k : aE W0 N K e (eL v (ls ++ [[]]) :: R2)) : aE W0 N K e A :=
 eN (Dw (v := v) (ls := ls) (vs := vs) (x := x) (B := R2) hx hv (k := ent_refl)) k
end
def p0 (x : Prt) : List Value := [.int .i64 x.lab, .int .i64 x.gu]
def lz (x : Prt) : List ByteArray := if x.gu = -1 then [] else x.l
def lB (x : Prt) : List ByteArray := if x.gu = -1 then x.l else []
@[reducible] def p6 (ps : List Prt) (aP aI aO : Option Addr) (cP cI cO : Nat) : Obj := aj [.slice aP ps.length cP, .slice aI ps.length cI, .slice aO ps.length cO] 334
def lD (p : Nat) (ps : List Prt) : HP := chk (fun C => ∃ aP cP aI cI aO cO, C = [pt p (p6 ps aP aI aO cP cI cO), osl 159 2 (.slice aP ps.length cP) (ps.flatMap p0), eL (.slice aI ps.length cI) (ps.map lz), eL (.slice aO ps.length cO) (ps.map lB)])
section
variable {W0 : World} {N : FSz} {K : Act → World → Prop} {e : bq} {A B R R1 R2 R3 R4 R5 R6 : List HP} {p n : Nat} {ps : List Prt}
theorem Dx [hk : Tk lD p A ps R] (h : ∀ aP cP aI cI aO cO, aE W0 N K e (pt p (p6 ps aP aI aO cP cI cO) :: osl 159 2 (.slice aP ps.length cP) (ps.flatMap p0) :: eL (.slice aI ps.length cI) (ps.map lz) :: eL (.slice aO ps.length cO) (ps.map lB) :: R)) : aE W0 N K e A :=
 dP (r := lD) (b := p) (iU fun C hC => by obtain ⟨aP, cP, aI, cI, aO, cO, rfl⟩ := hC; exact h aP cP aI cI aO cO)
theorem sh {n1 n2 n3 : Nat} {xs : List Value} {li lo : List (List ByteArray)} {aP aI aO : Option Addr} {cP cI cO : Nat} [h1 : Tk pt p A (aj [.slice aP n1 cP, .slice aI n2 cI, .slice aO n3 cO] 334) R1] [h2 : Tk (osl 159 2) (.slice aP n1 cP) R1 xs R2] [h3 : Tk eL (.slice aI n2 cI) R2 li R3] [h4 : Tk eL (.slice aO n3 cO) R3 lo R4]
  (e1 : xs = ps.flatMap p0) (e2 : li = ps.map lz) (e3 : lo = ps.map lB) (e4 : n1 = ps.length) (e5 : n2 = ps.length) (e6 : n3 = ps.length) [k : Ent R4 B] : Ent A (lD p ps :: B) := by
 subst e1; subst e2; subst e3; subst e4; subst e5; subst e6
 have e : A.Perm ([pt p (p6 ps aP aI aO cP cI cO), osl 159 2 (.slice aP ps.length cP) (ps.flatMap p0), eL (.slice aI ps.length cI) (ps.map lz), eL (.slice aO ps.length cO) (ps.map lB)] ++ R4) := h1.perm.trans ((h2.perm.trans ((h3.perm.trans (h4.perm.cons _)).cons _)).cons _)
 exact (Ent.ofPerm e).trans ((eF (R := R4) ⟨aP, cP, aI, cI, aO, cO, rfl⟩).trans (Ent.cons k))
end
def j4 (l : List iq) : Bool := decide (l.length ≤ 8) && l.all fun x => dh x.1
theorem wQ {l : List iq} (h : j4 l = true) : l.length ≤ 8 ∧ ∀ x ∈ l, dh x.1 = true := by
 rw [j4, Bool.and_eq_true, decide_eq_true_iff, List.all_eq_true] at h; exact h
theorem wR {l : List iq} (h1 : l.length ≤ 8) (h2 : ∀ i (hi : i < l.length), dh l[i].1 = true) : j4 l = true := by
 rw [j4, Bool.and_eq_true, decide_eq_true_iff, List.all_eq_true]
 refine ⟨h1, fun x hx => ?_⟩
 obtain ⟨i, hi, rfl⟩ := List.getElem_of_mem hx
 exact h2 i hi
theorem Dy {l : List iq} {i : Nat} (hi : i < l.length) (h : ¬ dh l[i].1 = true) : j4 l = false := by
 rw [← Bool.not_eq_true]; intro q
 exact h ((wQ q).2 _ (List.getElem_mem hi))
theorem wS {l : List iq} {i : Nat} (hi : i < l.length) : fP (l.take (i + 1)) = fP (l.take i) ++ [⟨l[i].1, l[i].2, []⟩] := by
 rw [fP, fP, List.take_succ_eq_append_getElem hi, List.map_append]; rfl
theorem wT (x y : Int) : lz ⟨x, y, []⟩ = [] := by unfold lz; split <;> rfl
theorem wU (x y : Int) : lB ⟨x, y, []⟩ = [] := by unfold lB; split <;> rfl
theorem Dz (W0 : World) (R : List HP) (l : List iq) (a : Option Addr) (n c : Nat) (hln : l.length = n) (hs : bT (bu W0 R) a 2 re l) :
  ao Tryz.prog W0 72 [.slice a n c] R (fun v B => (j4 l = true ∧ ∃ p, v = .tuple #[.pointer (some ⟨p, 0, none⟩), .int .i64 0] ∧ B = lD p (fP l) :: R) ∨ (j4 l = false ∧ v = .tuple #[.pointer none, .int .i64 15] ∧ B = R)) := by
 subst hln
 refine aD Tryz.func72 Tryz.ntmps72 rfl rfl ?_
 refine au 14 ?_
 refine ai rfl ?_ ?_
 ·intro c1
  refine au 8 ?_
  refine ah (.inl rfl) (.cons (ac rfl) (.cons (ac rfl) .nil)) ?_
  have h0 : j4 l = false := by rw [j4, decide_eq_false (by omega), Bool.false_and]
  exact ⟨_, .inr ⟨h0, rfl, rfl⟩, inferInstance⟩
 ·intro c1
  have hn : l.length ≤ 8 := by omega
  refine au 4 ?_
  refine aa rfl (bI py Tryz.zeroValue334 (aA j7 (aA lI (aA lI bH))) bG) ?_
  refine ae rfl (bw rfl) ?_
  rintro _ _ ⟨p, rfl, rfl⟩
  refine au 10 ?_
  refine ce (fun i : Nat => i ≤ l.length ∧ ∀ j (hj : j < l.length), j < i → dh l[j].1 = true) (fun i => [(0, .slice a l.length c), (4, .pointer (some ⟨p, 0, none⟩)), (5, .int .i64 i)]) (fun i => lD p (fP (l.take i)) :: R) (fun i => l.length - i) 0 ?_ ?_ ?_ ?_
  ·exact ⟨Nat.zero_le _, fun j _ hj => absurd hj (Nat.not_lt_zero _)⟩
  ·repeat (first | exact aJ | refine aG rfl ?_)
  ·have e1 : Ent (pt p (aj [.slice none 0 0, .slice none 0 0, .slice none 0 0] 334) :: R) (eL (.slice none 0 0) [] :: pt p (aj [.slice none 0 0, .slice none 0 0, .slice none 0 0] 334) :: R) := wP
   have e2 : Ent (eL (.slice none 0 0) [] :: pt p (aj [.slice none 0 0, .slice none 0 0, .slice none 0 0] 334) :: R) (eL (.slice none 0 0) [] :: eL (.slice none 0 0) [] :: pt p (aj [.slice none 0 0, .slice none 0 0, .slice none 0 0] 334) :: R) := wP
   have e3 : Ent (eL (.slice none 0 0) [] :: eL (.slice none 0 0) [] :: pt p (aj [.slice none 0 0, .slice none 0 0, .slice none 0 0] 334) :: R) (osl 159 2 (.slice none 0 0) [] :: eL (.slice none 0 0) [] :: eL (.slice none 0 0) [] :: pt p (aj [.slice none 0 0, .slice none 0 0, .slice none 0 0] 334) :: R) := fj
   have e4 : Ent (osl 159 2 (.slice none 0 0) [] :: eL (.slice none 0 0) [] :: eL (.slice none 0 0) [] :: pt p (aj [.slice none 0 0, .slice none 0 0, .slice none 0 0] 334) :: R) (lD p [] :: R) := sh rfl rfl rfl rfl rfl rfl
   exact e1.trans (e2.trans (e3.trans e4))
  ·intro i ⟨hi, hjs⟩
   refine au 9 ?_
   refine ai rfl ?_ ?_
   ·intro c5
    have hi1 : i < l.length := by omega
    obtain ⟨g, o, rfl, hc⟩ := hs.at_ hi1
    have hln : (fP (l.take i)).length = i := by rw [rf, List.length_take]; omega
    refine au 9 ?_
    refine aa rfl (bM gE eT rfl rfl rfl hi1 (by first | exact Nat.zero_add _ | rfl)) ?_
    refine aa rfl (ap rfl fB rfl ar rfl (by first | exact Nat.zero_add _ | rfl)) ?_
    refine aa rfl (am aT rfl (cp.weak hc 0 _ rfl)) ?_
    refine ae rfl (aF t2 rfl (oi W0 _ l[i].1)) ?_
    rintro _ B_ ⟨rfl, hB_⟩
    obtain rfl := hB_.symm
    refine au 3 ?_
    refine ai rfl ?_ ?_
    ·intro c7
     refine au 13 ?_
     refine ah (.inl rfl) (.cons (ac rfl) (.cons (ac rfl) .nil)) ?_
     exact ⟨_, .inr ⟨Dy hi1 (by simpa using c7), rfl, rfl⟩, inferInstance⟩
    ·intro c7
     have hlb : dh l[i].1 = true := by simpa using c7
     refine au 3 ?_
     refine Dx (p := p) fun aP cP aI cI aO cO => ?_
     simp only [p6, hln]
     refine bR [(g, o + i * 2, re l[i])] 14 bQ rfl (cm hc.weak aB) (fun hS => ?_)
     refine ab 0 rfl rfl rfl hS (ag rfl) ?_
     refine ab 1 rfl rfl rfl hS (ag rfl) ?_
     refine ab 2 rfl rfl rfl hS (aU rfl) ?_
     refine ab 3 rfl rfl rfl hS (ap rfl py rfl j7 rfl (by first | exact Nat.zero_add _ | rfl)) ?_
     refine ab 5 rfl rfl rfl hS (ag rfl) ?_
     refine ab 6 rfl rfl rfl hS (ag rfl) ?_
     refine ab 7 rfl rfl rfl hS (bM gE eT rfl rfl rfl hi1 (by first | exact Nat.zero_add _ | rfl)) ?_
     refine ab 8 rfl rfl rfl hS (cj ni eT rfl (cT (k := 0) rfl) rfl) ?_
     refine i6 (is := [4, 9]) (by kernel_rfl) rfl ⟨?_, ?_, trivial⟩
     ·skip
      refine ed rfl rfl (ec (am pi rfl (aH rfl))) rfl ?_; clear hS
      rintro _ _ ⟨rfl, rfl⟩
      refine ⟨(cm hc.weak aB), fun hS => ?_⟩
      refine aW 9 (by kernel_rfl) rfl rfl (fF gE eT jR rfl (eo rfl rfl fD) rfl (by decide) (by decide) (by decide)) rfl ?_; clear hS
      rintro _ _ ⟨b2, rfl, rfl⟩
      refine ⟨(cm hc.weak aB), fun hS => ?_⟩
      refine aW 10 (by kernel_rfl) rfl rfl (dy (sz := 2) (by_ := 16) (info := Tryz.t159) gE (by kernel_rfl) rfl rfl rfl rfl (by decide) rfl rfl dz rfl rfl (by simp only [maxLen]; omega) (by omega)) rfl ?_; clear hS
      rintro _ _ ⟨a6, k6, rfl, rfl⟩
      refine ⟨(cm hc.weak aB), fun hS => ?_⟩
      refine ab 11 rfl rfl rfl hS (aU rfl) ?_
      refine ab 12 rfl rfl rfl hS (ap rfl py rfl j7 rfl (by first | exact Nat.zero_add _ | rfl)) ?_
      refine aW 13 (by kernel_rfl) rfl rfl (bN j7 rfl rfl rfl (Nat.le_of_ble_eq_true rfl) SetL.eq) rfl ?_; clear hS
      rintro _ _ rfl
      refine ⟨(cm hc.weak aB), fun hS => ?_⟩
      refine bz (by kernel_rfl) ?_; clear hS
      refine au 2 ?_
      refine oY (v := .slice aI i cI) fun vI hvI => ?_
      refine au 6 ?_
      refine ae rfl (g6 kM lQ tv rfl rfl rfl rfl rfl (by decide) (by decide)) ?_
      rintro _ _ ⟨b3, rfl, rfl⟩
      refine ae rfl (dy (sz := 1) (by_ := 24) (info := Tryz.t207) kM (by kernel_rfl) rfl rfl rfl rfl (by decide) rfl rfl dz rfl rfl (by simp only [maxLen]; omega) (by omega)) ?_
      rintro _ _ ⟨a7, k7, rfl, rfl⟩
      refine au 2 ?_
      refine b0 (bN lI rfl rfl rfl (Nat.le_of_ble_eq_true rfl) SetL.eq) ?_
      rintro _ _ rfl
      refine au 2 ?_
      refine oZ (v := .slice a7 (i + 1) k7) (vs := vI) rfl hvI ?_
      refine oY (v := .slice aO i cO) fun vO hvO => ?_
      refine au 6 ?_
      refine ae rfl (g6 kM lQ tv rfl rfl rfl rfl rfl (by decide) (by decide)) ?_
      rintro _ _ ⟨b4, rfl, rfl⟩
      refine ae rfl (dy (sz := 1) (by_ := 24) (info := Tryz.t207) kM (by kernel_rfl) rfl rfl rfl rfl (by decide) rfl rfl dz rfl rfl (by simp only [maxLen]; omega) (by omega)) ?_
      rintro _ _ ⟨a8, k8, rfl, rfl⟩
      refine au 2 ?_
      refine b0 (bN lI rfl rfl rfl (Nat.le_of_ble_eq_true rfl) SetL.eq) ?_
      rintro _ _ rfl
      refine au 3 ?_
      refine oZ (v := .slice a8 (i + 1) k8) (vs := vO) rfl hvO ?_
      refine au 2 ?_
      refine aa rfl (bj rfl rfl (by first | exact aK (by omega) | rfl)) ?_
      refine au 3 ?_
      refine bU (i + 1) ?_ ?_ ?_ ?_
      ·refine ⟨by omega, fun j hj h => ?_⟩
       rcases Nat.lt_or_ge j i with q | q
       ·exact hjs j hj q
       ·obtain rfl : j = i := by omega
        exact hlb
      ·omega
      ·repeat (first | exact aJ | refine aG rfl ?_)
      ·rw [wS hi1]
       exact sh (by rw [List.flatMap_append]; rfl) (by rw [List.map_append, List.map_cons, List.map_nil, wT]) (by rw [List.map_append, List.map_cons, List.map_nil, wU]) (by rw [List.length_append, hln]; rfl) (by rw [List.length_append, hln]; rfl) (by rw [List.length_append, hln]; rfl)
     ·skip
      refine ed rfl rfl (fF gE eT jR rfl (eo rfl rfl fD) rfl (by decide) (by decide) (by decide)) rfl ?_; clear hS
      rintro _ _ ⟨b2, rfl, rfl⟩
      refine ⟨(cm hc.weak aB), fun hS => ?_⟩
      refine aW 4 (by kernel_rfl) rfl rfl (ec (am pi rfl (aH rfl))) rfl ?_; clear hS
      rintro _ _ ⟨rfl, rfl⟩
      refine ⟨(cm hc.weak aB), fun hS => ?_⟩
      refine aW 10 (by kernel_rfl) rfl rfl (dy (sz := 2) (by_ := 16) (info := Tryz.t159) gE (by kernel_rfl) rfl rfl rfl rfl (by decide) rfl rfl dz rfl rfl (by simp only [maxLen]; omega) (by omega)) rfl ?_; clear hS
      rintro _ _ ⟨a6, k6, rfl, rfl⟩
      refine ⟨(cm hc.weak aB), fun hS => ?_⟩
      refine ab 11 rfl rfl rfl hS (aU rfl) ?_
      refine ab 12 rfl rfl rfl hS (ap rfl py rfl j7 rfl (by first | exact Nat.zero_add _ | rfl)) ?_
      refine aW 13 (by kernel_rfl) rfl rfl (bN j7 rfl rfl rfl (Nat.le_of_ble_eq_true rfl) SetL.eq) rfl ?_; clear hS
      rintro _ _ rfl
      refine ⟨(cm hc.weak aB), fun hS => ?_⟩
      refine bz (by kernel_rfl) ?_; clear hS
      refine au 2 ?_
      refine oY (v := .slice aI i cI) fun vI hvI => ?_
      refine au 6 ?_
      refine ae rfl (g6 kM lQ tv rfl rfl rfl rfl rfl (by decide) (by decide)) ?_
      rintro _ _ ⟨b3, rfl, rfl⟩
      refine ae rfl (dy (sz := 1) (by_ := 24) (info := Tryz.t207) kM (by kernel_rfl) rfl rfl rfl rfl (by decide) rfl rfl dz rfl rfl (by simp only [maxLen]; omega) (by omega)) ?_
      rintro _ _ ⟨a7, k7, rfl, rfl⟩
      refine au 2 ?_
      refine b0 (bN lI rfl rfl rfl (Nat.le_of_ble_eq_true rfl) SetL.eq) ?_
      rintro _ _ rfl
      refine au 2 ?_
      refine oZ (v := .slice a7 (i + 1) k7) (vs := vI) rfl hvI ?_
      refine oY (v := .slice aO i cO) fun vO hvO => ?_
      refine au 6 ?_
      refine ae rfl (g6 kM lQ tv rfl rfl rfl rfl rfl (by decide) (by decide)) ?_
      rintro _ _ ⟨b4, rfl, rfl⟩
      refine ae rfl (dy (sz := 1) (by_ := 24) (info := Tryz.t207) kM (by kernel_rfl) rfl rfl rfl rfl (by decide) rfl rfl dz rfl rfl (by simp only [maxLen]; omega) (by omega)) ?_
      rintro _ _ ⟨a8, k8, rfl, rfl⟩
      refine au 2 ?_
      refine b0 (bN lI rfl rfl rfl (Nat.le_of_ble_eq_true rfl) SetL.eq) ?_
      rintro _ _ rfl
      refine au 3 ?_
      refine oZ (v := .slice a8 (i + 1) k8) (vs := vO) rfl hvO ?_
      refine au 2 ?_
      refine aa rfl (bj rfl rfl (by first | exact aK (by omega) | rfl)) ?_
      refine au 3 ?_
      refine bU (i + 1) ?_ ?_ ?_ ?_
      ·refine ⟨by omega, fun j hj h => ?_⟩
       rcases Nat.lt_or_ge j i with q | q
       ·exact hjs j hj q
       ·obtain rfl : j = i := by omega
        exact hlb
      ·omega
      ·repeat (first | exact aJ | refine aG rfl ?_)
      ·rw [wS hi1]
       exact sh (by rw [List.flatMap_append]; rfl) (by rw [List.map_append, List.map_cons, List.map_nil, wT]) (by rw [List.map_append, List.map_cons, List.map_nil, wU]) (by rw [List.length_append, hln]; rfl) (by rw [List.length_append, hln]; rfl) (by rw [List.length_append, hln]; rfl)
   ·intro c5
    refine au 13 ?_
    refine ah (.inl rfl) (.cons (ac rfl) (.cons (ac rfl) .nil)) ?_
    obtain rfl : i = l.length := by omega
    rw [List.take_of_length_le (Nat.le_refl _)]
    exact ⟨_, .inl ⟨wR hn fun j hj => hjs j hj hj, p, rfl, rfl⟩, inferInstance⟩
theorem wW {c : Cfg} (h : fV c = false) : ∀ k, k ≤ c.rl.length → ∃ y, ez c.rl k = some (eu c k, y)
 | 0, _ => ⟨[], rfl⟩
 | k + 1, hk => by
  obtain ⟨y, hy⟩ := wW h k (by omega)
  simp only [fV, Bool.or_eq_false_iff, decide_eq_false_iff_not] at h
  have hw := lm h.2 (i := k) (by omega)
  rw [iH, Bool.not_eq_false', Bool.and_eq_true, decide_eq_true_iff] at hw
  obtain ⟨h1, h2⟩ := hw
  have hl : dh (fT c k).1 = true := by
   have := h1
   simp only [dp, Bool.and_eq_true] at this
   exact this.1.2
  refine ⟨y ++ [(fT c k).1], ?_⟩
  rw [ez, hy, eu, if_pos h1]
  show (if dh (fT c k).1 = true ∧ da (eu c k) 32 (fT c k).2.1 (fT c k).2.2 k = 0 then _ else _) = _
  rw [if_pos ⟨hl, h2⟩]; rfl
theorem wX {c : Cfg} (h : rt c = true) : ∃ x, eA c.rl = some x := by
 obtain ⟨_, _, _, k1, _⟩ := jG h
 obtain ⟨y, hy⟩ := wW k1 c.rl.length (Nat.le_refl _)
 have := (rA k1).1
 exact ⟨_, by rw [eA, if_neg (by omega), hy]; rfl⟩
theorem wY {c : Cfg} (h : rt c = true) : j4 c.pl = true := by
 obtain ⟨_, _, _, _, k1, _⟩ := jG h
 simp only [gR, Bool.or_eq_false_iff, decide_eq_false_iff_not] at k1
 refine wR (by omega) fun i hi => ?_
 have hw := lm k1.2 hi
 simp only [iI, Bool.or_eq_false_iff, Bool.not_eq_false'] at hw
 have := hw.1
 rw [show c.pl.getD i (0, 0) = c.pl[i] by simp [List.getD, hi]] at this
 simp only [dp, Bool.and_eq_true] at this
 exact this.1.2
theorem wZ {c : Cfg} (h : rt c = true) : (0 ≤ c.cats ∧ c.cats ≤ 8) ∧ (-1 ≤ c.gate ∧ c.gate < 4) ∧ (0 ≤ c.quota ∧ c.quota ≤ 64) := by
 have hg4 := (eQ h).g4
 obtain ⟨k1, k2, _, _, _, _, _, k3, _⟩ := jG h
 refine ⟨⟨k1, k2⟩, ?_⟩
 unfold fQ at k3
 split at k3
 ·rw [decide_eq_false_iff_not] at k3; omega
 ·rw [Bool.not_eq_false', Bool.and_eq_true, decide_eq_true_iff, dK, decide_eq_true_iff] at k3; omega
theorem x9 {n f : Nat} : (List.replicate n bi).set f bi = List.replicate n bi := by
 apply List.ext_getElem
 ·simp
 ·intro i h1 h2; rw [List.getElem_set]; simp
theorem lE {c : Cfg} {f i : Nat} (hr : rt c = true) (hf : f < aQ c) (h : fb c f = some i) : iK c f = (1, (i : Int)) := by
 rw [iK, if_pos ⟨hr, by omega, by have := (eQ hr).nd; rw [aQ] at hf; omega⟩, h]; rfl
theorem xa {c : Cfg} {f : Nat} (hr : rt c = true) (hf : f < aQ c) (h : fb c f = none) : (iK c f).1 = 2 := by
 rw [iK, if_pos ⟨hr, by omega, by have := (eQ hr).nd; rw [aQ] at hf; omega⟩, h]; rfl
theorem DC (W0 : World) (R : List HP) (c : Cfg) (h : CfK W0 c) (hr : rt c = true) (ps : Nat) :
  ao Tryz.prog W0 60 [.agg (bF c).toArray, pV ps] (bn ps (List.replicate (aQ c) bi) :: R)
   (fun v B => ∃ pb, v = .tuple #[pV pb, .int .i64 0] ∧ B = cH pb (ps, cF c (aQ c)) :: bn ps (List.replicate (aQ c) bi) :: R) := by
 have hR := eQ hr
 have hnd := hR.nd
 have hg4 := hR.g4
 have hn : 0 < aQ c ∧ aQ c ≤ 32 := by rw [aQ]; omega
 have hlr : (List.replicate (aQ c) bi).length = aQ c := by simp
 refine aD Tryz.func60 Tryz.ntmps60 rfl rfl ?_
 refine au 2 ?_
 refine ae rfl (bw rfl) ?_
 rintro _ _ ⟨b2, rfl, rfl⟩
 refine au 7 ?_
 refine ae rfl (aM Tryz.call162 rfl (Ar W0 _ ps (List.replicate (aQ c) bi) (by rw [hlr]; omega) (by rw [hlr]; omega))) ?_
 rintro _ B_ ⟨pb, rfl, hB_⟩
 obtain rfl := hB_.symm
 rw [hlr, ← wj]
 refine au 14 ?_
 refine ai rfl ?_ ?_
 ·intro c2
  exact absurd c2 (by decide)
 ·intro c2
  refine au 6 ?_
  refine ae rfl (aM nj rfl (l5 W0 _ ps (List.replicate (aQ c) bi))) ?_
  rintro _ B_ ⟨rfl, hB_⟩
  obtain rfl := hB_.symm
  rw [hlr]
  refine au 4 ?_
  refine ce (fun f : Nat => f ≤ aQ c) (fun f => [(2, pV b2), (6, pV pb), (19, .int .i64 (aQ c : Nat)), (20, .int .i64 f)]) (fun f => pt b2 (cJ c) :: cH pb (ps, cF c f) :: bn ps (List.replicate (aQ c) bi) :: R) (fun f => aQ c - f) 0 ?_ ?_ ?_ ?_
  ·exact Nat.zero_le _
  ·repeat (first | exact aJ | refine aG rfl ?_)
  ·exact inferInstance
  ·intro f hf
   refine au 6 ?_
   refine ai rfl ?_ ?_
   ·intro c5
    refine au 2 ?_
    refine gn (fun _ : Unit => f < aQ c) (fun _ => [(2, pV b2), (6, pV pb), (19, .int .i64 (aQ c : Nat)), (20, .int .i64 f)]) (fun _ => pt b2 (cJ c) :: cH pb (ps, cF c (f + 1)) :: bn ps (List.replicate (aQ c) bi) :: R) ?_ ?_
    ·skip
     refine au 8 ?_
     have hf1 : f < aQ c := by omega
     have hos := lE (i := (fb c f).getD 0) hr hf1
     have hon := xa hr hf1
     refine au 3 ?_
     refine ae rfl (aF Tryz.call163 rfl (CH W0 _ c h f)) ?_
     rintro _ B_ ⟨rfl, hB_⟩
     obtain rfl := hB_.symm
     refine ae rfl (cd jb) ?_
     rintro _ _ ⟨b9, rfl, rfl⟩
     refine b0 (bS gI rfl rfl rfl rfl rfl) ?_
     rintro _ _ rfl
     refine au 9 ?_
     refine ai rfl ?_ ?_
     ·intro c8
      obtain ⟨i, hi⟩ : ∃ i, fb c f = some i := by
       cases e : fb c f with
       | some i => exact ⟨i, rfl⟩
       | none => have := hon e; rw [this] at c8; exact absurd c8 (by decide)
      have hov := lE hr hf1 hi
      have hi4 := ((oL hR).1 hi).1
      have hps := wk hf1 hi
      refine au 4 ?_
      refine aa rfl (am aT rfl (aH (by rw [hov]; rfl : (oO (iK c f))[1]? = some (.int .i64 (i : Int))))) ?_
      refine ae rfl (eE Tryz.call164 rfl (Av W0 _ pb ps (cF c f) (List.replicate (aQ c) bi) f i (by rw [ly]; exact hf1) (by rw [hlr]; exact hf1) (by omega) (wm hR f) (by rw [oM hf1, if_neg (by omega)]))) ?_
      rintro _ B_ ⟨rfl, hB_⟩
      obtain rfl := hB_.symm
      rw [x9, ← hps]
      refine au 3 ?_
      refine d8 () ?_ ?_ ?_
      ·exact hf1
      ·repeat (first | exact aJ | refine aG rfl ?_)
      ·exact inferInstance
     ·intro c8
      have hps : cF c (f + 1) = cF c f := by
       cases e : fb c f with
       | none => exact wl e
       | some i => have := lE hr hf1 e; rw [this] at c8; exact absurd rfl c8
      refine au 3 ?_
      refine d8 () ?_ ?_ ?_
      ·exact hf1
      ·repeat (first | exact aJ | refine aG rfl ?_)
      ·rw [hps]
       exact inferInstance
    ·intro _ hf1
     refine az ?_
     refine aa rfl (bj rfl rfl (by first | exact aK (by omega) | rfl)) ?_
     refine au 3 ?_
     refine bU (f + 1) ?_ ?_ ?_ ?_
     ·omega
     ·omega
     ·repeat (first | exact aJ | refine aG rfl ?_)
     ·exact inferInstance
   ·intro c5
    refine au 13 ?_
    refine ah (.inl rfl) (.cons (ac rfl) (.cons (ac rfl) .nil)) ?_
    obtain rfl : f = aQ c := by omega
    exact ⟨_, ⟨pb, rfl, rfl⟩, inferInstance⟩
theorem DD (W0 : World) (R : List HP) (c : Cfg) (h : CfK W0 c) (hr : rt c = true) :
  ao Tryz.prog W0 61 [.agg (bF c).toArray, .slice none 0 0] R (fun v B => ∃ db x, v = .tuple #[pV db, .int .i64 0] ∧ B = jI db x :: R) := by
 obtain ⟨x, hx⟩ := wX hr
 have hl := (rA (jG hr).2.2.2.1).1
 refine aD Tryz.func61 Tryz.ntmps61 rfl rfl ?_
 refine au 2 ?_
 refine ae rfl (bw rfl) ?_
 rintro _ _ ⟨b2, rfl, rfl⟩
 refine au 8 ?_
 refine ae rfl (aF Tryz.call165 rfl (Du W0 _ c.ra c.rc c.rl (h.ok.r _) (by omega))) ?_
 rintro _ B_ ⟨p, Y, rfl, hB_, _, hY⟩
 obtain rfl := hB_.symm
 obtain ⟨db, rfl, rfl⟩ := hY x hx
 rw [hx, show (if (some x).isSome = true then (0 : Int) else 14) = 0 from rfl]
 simp only [List.cons_append, List.nil_append]
 refine au 14 ?_
 refine ai rfl ?_ ?_
 ·intro c2
  exact absurd c2 (by decide)
 ·intro c2
  refine au 11 ?_
  refine ce (fun _ : Unit => True) (fun _ => [(6, pV db), (20, .int .i64 0), (21, .int .i64 0)]) (fun _ => jI db x :: R) (fun _ => 0) () ?_ ?_ ?_ ?_
  ·trivial
  ·repeat (first | exact aJ | refine aG rfl ?_)
  ·exact inferInstance
  ·intro _ _
   refine au 6 ?_
   refine ai rfl ?_ ?_
   ·intro c5
    omega
   ·intro c5
    refine au 13 ?_
    refine ah (.inl rfl) (.cons (ac rfl) (.cons (ac rfl) .nil)) ?_
    exact ⟨_, ⟨db, x, rfl, rfl⟩, inferInstance⟩
@[reducible] def eR (c : Cfg) (ps pb db qb gb : Nat) : List Value := bF c ++ [pV ps, pV pb, pV db, pV qb, pV gb]
theorem DF (W0 : World) (R : List HP) (c : Cfg) (h : CfK W0 c) (hr : rt c = true) :
  ao Tryz.prog W0 26 [.agg (bF c).toArray, .slice none 0 0] R
   (fun v B => ∃ hb ps pb db qb gb x, v = .tuple #[pV hb, .int .i64 0] ∧ B = pt hb (aj (eR c ps pb db qb gb) 119) :: bn ps (List.replicate (aQ c) bi) :: cH pb (ps, cF c (aQ c)) :: jI db x :: ol qb (fP c.pl) :: pt gb (gU c.cats c.gate c.quota) :: R) := by
 have hck : fw c = 0 := of_decide_eq_true hr
 have hfn : gT c = aQ c := by rw [gT, if_pos hr]
 have hf32 := wo c
 obtain ⟨q1, q2⟩ := wQ (wY hr)
 obtain ⟨z1, z2, z3⟩ := wZ hr
 refine aD Tryz.func26 Tryz.ntmps26 rfl rfl ?_
 refine au 2 ?_
 refine ae rfl (bw rfl) ?_
 rintro _ _ ⟨b2, rfl, rfl⟩
 refine au 8 ?_
 refine ae rfl (aF tm rfl (oE W0 _ c h.ok)) ?_
 rintro _ B_ ⟨at_, rfl, hB_⟩
 obtain rfl := hB_.symm
 rw [hck]
 refine au 13 ?_
 refine ai rfl ?_ ?_
 ·intro c2
  exact absurd c2 (by decide)
 ·intro c2
  refine au 5 ?_
  refine aa rfl (bI gW Tryz.zeroValue119 (aA dM (aA iN (aA nt (aA xC (aA xD (aA sM bH)))))) (i5 rfl dM rfl rfl (Nat.le_of_ble_eq_true rfl) SetRL.eq bG)) ?_
  refine ae rfl (bw rfl) ?_
  rintro _ _ ⟨hb, rfl, rfl⟩
  refine au 13 ?_
  refine ae rfl (aF Tryz.call59 rfl (CG W0 _ c h.ok)) ?_
  rintro _ B_ ⟨rfl, hB_⟩
  obtain rfl := hB_.symm
  rw [hfn]
  refine ae rfl (aF Tryz.call58 rfl (zB W0 _ (aQ c) (by omega))) ?_
  rintro _ B_ ⟨ps, rfl, hB_⟩
  obtain rfl := hB_.symm
  refine au 5 ?_
  refine b0 (bN iN rfl rfl rfl (Nat.le_of_ble_eq_true rfl) SetL.eq) ?_
  rintro _ _ rfl
  refine au 9 ?_
  refine ai rfl ?_ ?_
  ·intro c7
   exact absurd c7 (by decide)
  ·intro c7
   refine au 4 ?_
   refine bR [(b2, 0, _)] 14 bQ rfl (aC aB) (fun hS => ?_)
   refine ab 0 rfl rfl rfl hS (ag rfl) ?_
   refine ab 1 rfl rfl rfl hS (cj gC dM rfl (cT (k := 0) rfl) rfl) ?_
   refine ab 2 rfl rfl rfl hS (ag rfl) ?_
   refine ab 3 rfl rfl rfl hS (aU rfl) ?_
   refine ab 4 rfl rfl rfl hS (ap rfl gW rfl iN rfl (by first | exact Nat.zero_add _ | rfl)) ?_
   refine aW 5 (by kernel_rfl) rfl rfl (ec (am mV rfl (aH rfl))) rfl ?_; clear hS
   rintro _ _ ⟨rfl, rfl⟩
   refine ⟨(aC aB), fun hS => ?_⟩
   refine aW 6 (by kernel_rfl) rfl rfl (aM Tryz.call60 rfl (DC W0 _ c h hr ps)) rfl ?_; clear hS
   rintro _ B_ ⟨pb, rfl, hB_⟩
   obtain rfl := hB_.symm
   refine ⟨(aC aB), fun hS => ?_⟩
   refine ab 7 rfl rfl rfl hS (ag rfl) ?_
   refine ab 8 rfl rfl rfl hS (bZ rfl rfl) ?_
   refine ab 9 rfl rfl rfl hS (bZ rfl rfl) ?_
   refine ab 10 rfl rfl rfl hS (aU rfl) ?_
   refine ab 11 rfl rfl rfl hS (ap rfl gW rfl nt rfl (by first | exact Nat.zero_add _ | rfl)) ?_
   refine aW 12 (by kernel_rfl) rfl rfl (bN nt rfl rfl rfl (Nat.le_of_ble_eq_true rfl) SetL.eq) rfl ?_; clear hS
   rintro _ _ rfl
   refine ⟨(aC aB), fun hS => ?_⟩
   refine ab 13 rfl rfl rfl hS (ax rfl) ?_
   refine bz (by kernel_rfl) ?_; clear hS
   refine au 7 ?_
   refine ai rfl ?_ ?_
   ·intro c10
    exact absurd c10 (by decide)
   ·intro c10
    refine au 8 ?_
    refine ae rfl (aF Tryz.call61 rfl (DD W0 _ c h hr)) ?_
    rintro _ B_ ⟨db, x, rfl, hB_⟩
    obtain rfl := hB_.symm
    refine au 5 ?_
    refine b0 (bN xC rfl rfl rfl (Nat.le_of_ble_eq_true rfl) SetL.eq) ?_
    rintro _ _ rfl
    refine au 9 ?_
    refine ai rfl ?_ ?_
    ·intro c13
     exact absurd c13 (by decide)
    ·intro c13
     refine au 8 ?_
     refine ae rfl (aF Tryz.call62 rfl (Ao W0 _ c.pl c.pa c.pl.length c.pc rfl q1 (h.ok.p _) q2)) ?_
     rintro _ B_ ⟨qb, rfl, hB_⟩
     obtain rfl := hB_.symm
     refine au 5 ?_
     refine b0 (bN xD rfl rfl rfl (Nat.le_of_ble_eq_true rfl) SetL.eq) ?_
     rintro _ _ rfl
     refine au 9 ?_
     refine ai rfl ?_ ?_
     ·intro c16
      exact absurd c16 (by decide)
     ·intro c16
      refine au 12 ?_
      refine ae rfl (aF Tryz.call63 rfl (D6 W0 _ c.cats c.gate c.quota z1 z2 z3)) ?_
      rintro _ B_ ⟨gb, rfl, hB_⟩
      obtain rfl := hB_.symm
      refine au 5 ?_
      refine b0 (bN sM rfl rfl rfl (Nat.le_of_ble_eq_true rfl) SetL.eq) ?_
      rintro _ _ rfl
      refine au 9 ?_
      refine ai rfl ?_ ?_
      ·intro c19
       exact absurd c19 (by decide)
      ·intro c19
       refine au 10 ?_
       refine il (b := hb) (o' := aj (eR c ps pb db qb gb) 119) rfl ?_
       refine ah (.inl rfl) (.cons (ac rfl) (.cons (ac rfl) .nil)) ?_
       exact ⟨_, ⟨hb, ps, pb, db, qb, gb, x, rfl, rfl⟩, inferInstance⟩
theorem DG (W0 : World) (R : List HP) (c : Cfg) (h : CfK W0 c) (hr : rt c = false) :
  ao Tryz.prog W0 26 [.agg (bF c).toArray, .slice none 0 0] R (fun v B => v = .tuple #[.pointer none, .int .i64 (fw c)] ∧ B = R) := by
 have hck : ¬ fw c = 0 := of_decide_eq_false hr
 refine aD Tryz.func26 Tryz.ntmps26 rfl rfl ?_
 refine au 2 ?_
 refine ae rfl (bw rfl) ?_
 rintro _ _ ⟨b2, rfl, rfl⟩
 refine au 8 ?_
 refine ae rfl (aF tm rfl (oE W0 _ c h.ok)) ?_
 rintro _ B_ ⟨at_, rfl, hB_⟩
 obtain rfl := hB_.symm
 refine au 13 ?_
 refine ai rfl ?_ ?_
 ·intro c2
  refine au 9 ?_
  refine ah (.inl rfl) (.cons (ac rfl) (.cons (ac rfl) .nil)) ?_
  exact ⟨_, ⟨rfl, rfl⟩, inferInstance⟩
 ·intro c2
  exact absurd hck c2
def si (b : List Nat) : List Value := (List.range 16).map fun i => bV (b.getD i 0)
@[reducible] def sj (bt : Nat) (aR : Option Addr) (n cR : Nat) (ys : List Value) : Obj := aj (.slice aR n cR :: .pointer (some ⟨bt, 0, none⟩) :: ys) 329
def sk (d : Nat) (x : Dk) : HP := chk (fun C => ∃ bt aR cR, ∃ (L : List Int) (rl : List Rn), (RT x.rs L ∧ L.length = 32 ∧ rl.map (fun r => r.1) = x.lb) ∧ C = [pt d (sj bt aR rl.length cR (x.ss.flatMap si)), iJ bt L, osl 157 3 (.slice aR rl.length cR) (rl.flatMap jL)])
section
variable {W0 : World} {N : FSz} {K : Act → World → Prop} {e : bq} {A B R R1 R2 R3 : List HP} {d : Nat} {x : Dk}
theorem DI {bt n cR : Nat} {aR : Option Addr} {L : List Int} {rl : List Rn} {ys zs : List Value} [h1 : Tk pt d A (sj bt aR n cR zs) R1] [h2 : Tk iJ bt R1 L R2] [h3 : Tk (osl 157 3) (.slice aR n cR) R2 ys R3]
  (q1 : RT x.rs L) (q2 : L.length = 32) (q3 : rl.map (fun r => r.1) = x.lb) (e1 : zs = x.ss.flatMap si) (e2 : ys = rl.flatMap jL) (e3 : n = rl.length) [k : Ent R3 B] : Ent A (sk d x :: B) := by
 subst e1; subst e2; subst e3
 have e : A.Perm ([pt d (sj bt aR rl.length cR (x.ss.flatMap si)), iJ bt L, osl 157 3 (.slice aR rl.length cR) (rl.flatMap jL)] ++ R3) := h1.perm.trans ((h2.perm.trans (h3.perm.cons _)).cons _)
 exact (Ent.ofPerm e).trans ((eF (R := R3) ⟨bt, aR, cR, L, rl, ⟨q1, q2, q3⟩, rfl⟩).trans (Ent.cons k))
end
theorem xb (x : Rn) : (jL x).length = 3 := rfl
theorem DJ (l : List Rn) : ek (l.flatMap jL) = true := by
 induction l with
 | nil => rfl
 | cons x l ih => rw [List.flatMap_cons, ek, List.all_append, Bool.and_eq_true]; exact ⟨rfl, ih⟩
theorem DK : ∀ w, (zeroValue 329).run Tryz.prog w = .ok (.agg (.slice none 0 0 :: .pointer none :: List.replicate 512 (.int .u8 0)).toArray) w := fun w => (Tryz.zeroValue329 w).trans (by kernel_rfl)
theorem xd (rs : List Rn) : ∀ {k : Nat} {y : List Rn × List Int}, k ≤ rs.length → ez rs k = some y → y.2 = (rs.take k).map (fun r => r.1)
 | 0, y, _, h => by cases h; rfl
 | k + 1, y, hk, h => by
  rw [ez] at h
  cases e : ez rs k with
  | none => rw [e] at h; cases h
  | some z =>
   rw [e] at h
   have ih := xd rs (by omega) e
   have h' : (if dh (rs.getD k (0, 0, 0)).1 = true ∧ da z.1 32 (rs.getD k (0, 0, 0)).2.1 (rs.getD k (0, 0, 0)).2.2 k = 0 then some (dS z.1 32 (rs.getD k (0, 0, 0)).2.1 (rs.getD k (0, 0, 0)).2.2 k, z.2 ++ [(rs.getD k (0, 0, 0)).1]) else none) = some y := h
   split at h'
   ·cases h'
    rw [List.take_succ_eq_append_getElem (by omega), List.map_append, ← ih, show rs.getD k (0, 0, 0) = rs[k]'(by omega) by simp [List.getD, show k < rs.length by omega]]; rfl
   ·cases h'
theorem DL (W0 : World) (R : List HP) (a : Option Addr) (c : Nat) (rs : List Rn) (hs : bT (bu W0 R) a 3 jL rs) (hl : rs.length < 9223372036854775808) (hb : ∀ x ∈ rs, -9223372036854775808 ≤ x.2.1 ∧ x.2.1 < 9223372036854775808) :
  ao Tryz.prog W0 70 [.slice a rs.length c] R
   (fun v B => ∃ p Y, v = .tuple #[.pointer p, .int .i64 (if (eA rs).isSome then 0 else 14)] ∧ B = Y ++ R ∧ (eA rs = none → p = none ∧ Y = []) ∧ (∀ x, eA rs = some x → ∃ d, p = some ⟨d, 0, none⟩ ∧ Y = [sk d x])) := by
 refine aD Tryz.func70 Tryz.ntmps70 rfl rfl ?_
 refine au 14 ?_
 refine ai rfl ?_ ?_
 ·intro c1
  refine au 8 ?_
  refine ah (.inl rfl) (.cons (ac rfl) (.cons (ac rfl) .nil)) ?_
  have hN : eA rs = none := by rw [eA, if_pos (by omega)]
  rw [hN]
  refine ⟨_, ⟨none, [], rfl, rfl, (fun _ => ⟨rfl, rfl⟩), (fun x hx => by cases hx)⟩, ?_⟩
  simp only [List.nil_append]
  exact inferInstance
 ·intro c1
  refine au 3 ?_
  have h8 : rs.length ≤ 8 := by omega
  have hD : eA rs = (ez rs rs.length).map fun y => ⟨y.1, y.2, List.replicate 32 gz⟩ := by rw [eA, if_neg (by omega)]
  refine az ?_
  refine ae rfl (aF Tryz.call177 rfl (w9 W0 _ 32 (by decide))) ?_
  rintro _ B_ ⟨bt, rfl, hB_⟩
  obtain rfl := hB_.symm
  refine au 14 ?_
  refine ce (fun X : Nat × List Int => X.1 ≤ rs.length ∧ X.2.length = 32 ∧ ∃ y, ez rs X.1 = some y ∧ RT y.1 X.2) (fun X => [(0, .slice a rs.length c), (4, .pointer (some ⟨bt, 0, none⟩)), (6, .int .i64 X.1)]) (fun X => iJ bt X.2 :: R) (fun X => rs.length - X.1) (0, List.replicate 32 (-1)) ?_ ?_ ?_ ?_
  ·exact ⟨Nat.zero_le _, rfl, _, rfl, vz 32⟩
  ·repeat (first | exact aJ | refine aG rfl ?_)
  ·exact inferInstance
  ·intro ⟨k, L⟩ ⟨hk, hL, y, hdn, hRT⟩
   dsimp only at hk hL hdn hRT ⊢
   refine au 9 ?_
   refine ai rfl ?_ ?_
   ·intro c5
    refine au 5 ?_
    have hk1 : k < rs.length := by omega
    obtain ⟨g, o, rfl, hc⟩ := hs.at_ hk1
    have hgk : rs.getD k (0, 0, 0) = rs[k] := by simp [List.getD, hk1]
    have hbk := hb _ (List.getElem_mem hk1)
    obtain ⟨x, hx⟩ : ∃ x, rs[k] = x := ⟨_, rfl⟩
    rw [hx] at hc hgk hbk
    have hst : ez rs (k + 1) = if dh x.1 = true ∧ da y.1 32 x.2.1 x.2.2 k = 0 then some (dS y.1 32 x.2.1 x.2.2 k, y.2 ++ [x.1]) else none := by
     rw [ez, hdn, hgk]; rfl
    have hE := rz hRT (n := 32) (by rw [hL]; rfl) x.2.1 x.2.2 k
    refine bR [(g, o + k * 3, jL x)] 23 bQ rfl (cm hc.weak aB) (fun hS => ?_)
    refine ab 0 rfl rfl rfl hS (ag rfl) ?_
    refine ab 1 rfl rfl rfl hS (ag rfl) ?_
    refine ab 2 rfl rfl rfl hS (bM gX ij rfl rfl rfl hk1 (by first | exact Nat.zero_add _ | rfl)) ?_
    refine ab 3 rfl rfl rfl hS (ap rfl gZ rfl ar rfl (by first | exact Nat.zero_add _ | rfl)) ?_
    refine ab 4 rfl rfl rfl hS (am aT rfl (f6 (k := 0) (j := 0) rfl rfl)) ?_
    refine aW 5 (by kernel_rfl) rfl rfl (aF t2 rfl (oi W0 _ x.1)) rfl ?_; clear hS
    rintro _ B_ ⟨rfl, hB_⟩
    obtain rfl := hB_.symm
    refine ⟨(cm hc.weak aB), fun hS => ?_⟩
    refine ab 6 rfl rfl rfl hS (fM rfl) ?_
    refine ab 7 rfl rfl rfl hS (ag rfl) ?_
    refine je (t := 27) rfl ?_ ?_
    ·intro g7_8
     refine aV 8 rfl rfl rfl hS ?_
     refine aV 9 rfl rfl rfl hS ?_
     refine aV 10 rfl rfl rfl hS ?_
     refine aV 11 rfl rfl rfl hS ?_
     refine aV 12 rfl rfl rfl hS ?_
     refine aV 13 rfl rfl rfl hS ?_
     refine aV 14 rfl rfl rfl hS ?_
     refine aV 15 rfl rfl rfl hS ?_
     refine aV 16 rfl rfl rfl hS ?_
     refine aV 17 rfl rfl rfl hS ?_
     refine aV 18 rfl rfl rfl hS ?_
     refine aV 19 rfl rfl rfl hS ?_
     refine aV 20 rfl rfl rfl hS ?_
     refine aV 21 rfl rfl rfl hS ?_
     refine ab 22 rfl rfl rfl hS (cV rfl rfl) ?_
     refine bz (by kernel_rfl) ?_; clear hS
     refine au 14 ?_
     refine ah (.inl rfl) (.cons (ac rfl) (.cons (ac rfl) .nil)) ?_
     have hS : ez rs (k + 1) = none := by
      rw [hst, if_neg]
      rintro ⟨q1, q2⟩
      rw [← hE] at q2
      simp_all
     have hN : eA rs = none := by rw [hD, oX hS hk1]; rfl
     rw [hN]
     refine ⟨_, ⟨none, [], rfl, rfl, (fun _ => ⟨rfl, rfl⟩), (fun x hx => by cases hx)⟩, ?_⟩
     simp only [List.nil_append]
     exact inferInstance
    ·intro g7_8
     refine ab 8 rfl rfl rfl hS (ag rfl) ?_
     refine ab 9 rfl rfl rfl hS (ag rfl) ?_
     refine ab 10 rfl rfl rfl hS (ag rfl) ?_
     refine ab 11 rfl rfl rfl hS (bM gX ij rfl rfl rfl hk1 (by first | exact Nat.zero_add _ | rfl)) ?_
     refine ab 12 rfl rfl rfl hS (ap rfl gZ rfl ar rfl (by first | exact Nat.zero_add _ | rfl)) ?_
     refine ab 13 rfl rfl rfl hS (am aT rfl (f6 (k := 0) (j := 1) rfl rfl)) ?_
     refine ab 14 rfl rfl rfl hS (ag rfl) ?_
     refine ab 15 rfl rfl rfl hS (ag rfl) ?_
     refine ab 16 rfl rfl rfl hS (bM gX ij rfl rfl rfl hk1 (by first | exact Nat.zero_add _ | rfl)) ?_
     refine ab 17 rfl rfl rfl hS (ap rfl gZ rfl ar rfl (by first | exact Nat.zero_add _ | rfl)) ?_
     refine ab 18 rfl rfl rfl hS (am aT rfl (f6 (k := 0) (j := 2) rfl rfl)) ?_
     refine ab 19 rfl rfl rfl hS (ag rfl) ?_
     refine aW 20 (by kernel_rfl) rfl rfl (aM Tryz.call179 rfl (wa W0 _ bt L (by omega) x.2.1 x.2.2 k)) rfl ?_; clear hS
     rintro _ B_ ⟨rfl, hB_⟩
     obtain rfl := hB_.symm
     refine ⟨(cm hc.weak aB), fun hS => ?_⟩
     refine ab 21 rfl rfl rfl hS (du rfl rfl) ?_
     refine ab 22 rfl rfl rfl hS (d4 rfl rfl) ?_
     refine bz (by kernel_rfl) ?_; clear hS
     refine ak ?_
     refine ai rfl ?_ ?_
     ·intro c7
      refine au 12 ?_
      refine ah (.inl rfl) (.cons (ac rfl) (.cons (ac rfl) .nil)) ?_
      have hS : ez rs (k + 1) = none := by
       rw [hst, if_neg]
       rintro ⟨q1, q2⟩
       rw [← hE] at q2
       simp_all
      have hN : eA rs = none := by rw [hD, oX hS hk1]; rfl
      rw [hN]
      refine ⟨_, ⟨none, [], rfl, rfl, (fun _ => ⟨rfl, rfl⟩), (fun x hx => by cases hx)⟩, ?_⟩
      simp only [List.nil_append]
      exact inferInstance
     ·intro c7
      refine au 3 ?_
      have hgo : dh x.1 = true ∧ da y.1 32 x.2.1 x.2.2 k = 0 := by
       rw [← hE]; simp_all
      rw [if_pos hgo] at hst
      refine au 2 ?_
      refine aa rfl (bj rfl rfl (by first | exact aK (by omega) | rfl)) ?_
      refine au 3 ?_
      refine bU (k + 1, gi L x.2.1 x.2.2 k) ?_ ?_ ?_ ?_
      ·exact ⟨by omega, ry.trans hL, _, hst, vy hRT (by rw [hL]; rfl) (by decide) _ _ _⟩
      ·omega
      ·repeat (first | exact aJ | refine aG rfl ?_)
      ·exact inferInstance
   ·intro c5
    refine au 6 ?_
    obtain rfl : k = rs.length := by omega
    refine az (ae rfl (mh gX ij rfl) ?_)
    rintro _ _ ⟨be, rfl, rfl⟩
    refine aa rfl (ag rfl) ?_
    refine ae rfl (uX (sz := 3) (by_ := 24) (info := Tryz.t157) gX (by kernel_rfl) rfl rfl rfl rfl (by decide) rfl rfl ((hs.weak.src xb (fun _ => trivial)).imp (fun h => by rw [h]; rfl) (fun h => h)) (cX xb rs) (DJ rs) (by simp only [maxLen]; omega) (by omega)) ?_
    rintro _ _ ⟨aN, cN, rfl, rfl⟩
    rw [List.nil_append, Nat.zero_add]
    refine aa rfl (ag rfl) ?_
    refine aa rfl (bI (l' := .slice aN rs.length cN :: .pointer (some ⟨bt, 0, none⟩) :: List.replicate 512 (.int .u8 0)) Tryz.underlying329 DK (aA jO (aA Tryz.sizeOf322 (aA Tryz.sizeOf327 bH))) (aS rfl jO rfl rfl (by simp) rfl (aS rfl Tryz.sizeOf322 rfl rfl (by simp) rfl bG))) ?_
    refine ae rfl (bw rfl) ?_
    rintro _ _ ⟨d, rfl, rfl⟩
    refine au 5 ?_
    refine ah (.inl rfl) (.cons (ac rfl) (.cons (ac rfl) .nil)) ?_
    have hN : eA rs = some ⟨y.1, y.2, List.replicate 32 gz⟩ := by rw [hD, hdn]; rfl
    rw [hN]
    refine ⟨_, ⟨_, [sk d ⟨y.1, y.2, List.replicate 32 gz⟩], rfl, rfl, (fun q => by cases q), (fun x hx => by cases hx; exact ⟨d, rfl, rfl⟩)⟩, ?_⟩
    simp only [List.cons_append, List.nil_append]
    exact DI (x := ⟨y.1, y.2, List.replicate 32 gz⟩) (rl := rs) hRT hL (by rw [xd rs (Nat.le_refl _) hdn, List.take_of_length_le (Nat.le_refl _)]) (by kernel_rfl) rfl rfl
theorem DN (W0 : World) (R : List HP) (cats who quota : Int) (h1 : 0 ≤ cats ∧ cats ≤ 8) (h2 : -1 ≤ who ∧ who < 4) (h3 : 0 ≤ quota ∧ quota ≤ 64) : ao Tryz.prog W0 73 [.int .i64 cats, .int .i64 who, .int .i64 quota] R (fun v B => ∃ b, v = .tuple #[pV b, .int .i64 0] ∧ B = R) := by
 refine aD Tryz.func73 Tryz.ntmps73 rfl rfl ?_
 refine au 12 ?_
 refine aZ rfl rfl rfl ?_ ?_
 ·intro g1_3
  omega
 ·intro g1_3
  refine au 5 ?_
  refine aZ rfl rfl rfl ?_ ?_
  ·intro g1_7
   omega
  ·intro g1_7
   refine au 5 ?_
   refine aZ rfl rfl rfl ?_ ?_
   ·intro g1_11
    omega
   ·intro g1_11
    refine au 5 ?_
    refine aZ rfl rfl rfl ?_ ?_
    ·intro g1_15
     omega
    ·intro g1_15
     refine au 5 ?_
     refine aZ rfl rfl rfl ?_ ?_
     ·intro g1_19
      omega
     ·intro g1_19
      refine au 6 ?_
      refine ai rfl ?_ ?_
      ·intro c1
       omega
      ·intro c1
       refine au 7 ?_
       refine aa rfl (bI Tryz.underlying336 Tryz.zeroValue336 (aA ar (aA ar (aA ar (aA Tryz.sizeOf54 (aA ar bH))))) (aS rfl ar rfl rfl (Nat.le_of_ble_eq_true rfl) SetL.eq (aS rfl ar rfl rfl (Nat.le_of_ble_eq_true rfl) SetL.eq (aS rfl ar rfl rfl (Nat.le_of_ble_eq_true rfl) SetL.eq bG)))) ?_
       refine ae rfl (bw rfl) ?_
       rintro _ _ ⟨b, rfl, rfl⟩
       refine au 5 ?_
       refine ah (.inl rfl) (.cons (ac rfl) (.cons (ac rfl) .nil)) ?_
       exact ⟨_, ⟨b, rfl, rfl⟩, inferInstance⟩
theorem DO (W0 : World) (R : List HP) (c : Cfg) (h : CfK W0 c) (hr : rt c = false) :
  ao Tryz.prog W0 27 [.agg (bF c).toArray, .slice none 0 0] R (fun v B => v = .tuple #[.pointer none, .int .i64 (fw c)] ∧ B = R) := by
 have hck : ¬ fw c = 0 := of_decide_eq_false hr
 refine aD Tryz.func27 Tryz.ntmps27 rfl rfl ?_
 refine au 2 ?_
 refine ae rfl (bw rfl) ?_
 rintro _ _ ⟨b2, rfl, rfl⟩
 refine au 7 ?_
 refine ae rfl (aF yh rfl (rW W0 _ c h.ok)) ?_
 rintro _ B_ ⟨at_, rfl, hB_⟩
 obtain rfl := hB_.symm
 refine au 14 ?_
 refine ai rfl ?_ ?_
 ·intro c2
  refine au 9 ?_
  refine ah (.inl rfl) (.cons (ac rfl) (.cons (ac rfl) .nil)) ?_
  exact ⟨_, ⟨rfl, rfl⟩, inferInstance⟩
 ·intro c2
  exact absurd hck c2
@[reducible] def kC (c : Cfg) (qs pb : Nat) (x y z : Nat) : List Value := bF c ++ [pV qs, pV pb, pV x, pV y, pV z]
theorem DT (W0 : World) (R : List HP) (c : Cfg) (h : CfK W0 c) (hr : rt c = true) :
  ao Tryz.prog W0 27 [.agg (bF c).toArray, .slice none 0 0] R
   (fun v B => ∃ wb qs pb x y z, v = .tuple #[pV wb, .int .i64 0] ∧ B = pt wb (aj (kC c qs pb x y z) 103) :: cB pb (qs, cF c (aQ c)) :: cq qs (List.replicate (aQ c) bi) :: R) := by
 have hck : fw c = 0 := of_decide_eq_true hr
 have hfn : gT c = aQ c := by rw [gT, if_pos hr]
 have hf32 := wo c
 have hR := eQ hr
 have hnd := hR.nd
 have hg4 := hR.g4
 have hn : 0 < aQ c ∧ aQ c ≤ 32 := by rw [aQ]; omega
 have hlr : (List.replicate (aQ c) bi).length = aQ c := by simp
 obtain ⟨z1, z2, z3⟩ := wZ hr
 obtain ⟨dx, hdx⟩ := wX hr
 obtain ⟨hrl, hrb⟩ := rA (jG hr).2.2.2.1
 have hpo := wY hr
 refine aD Tryz.func27 Tryz.ntmps27 rfl rfl ?_
 refine au 2 ?_
 refine ae rfl (bw rfl) ?_
 rintro _ _ ⟨b2, rfl, rfl⟩
 refine au 7 ?_
 refine ae rfl (aF yh rfl (rW W0 _ c h.ok)) ?_
 rintro _ B_ ⟨at_, rfl, hB_⟩
 obtain rfl := hB_.symm
 rw [hck]
 refine au 14 ?_
 refine ai rfl ?_ ?_
 ·intro c2
  exact absurd c2 (by decide)
 ·intro c2
  refine au 5 ?_
  refine ae rfl (aF Tryz.call66 rfl (CI W0 _ c h.ok)) ?_
  rintro _ B_ ⟨rfl, hB_⟩
  obtain rfl := hB_.symm
  rw [hfn]
  refine ae rfl (aF Tryz.call65 rfl (BG W0 _ (aQ c) (by omega))) ?_
  rintro _ B_ ⟨qs, rfl, hB_⟩
  obtain rfl := hB_.symm
  refine au 10 ?_
  refine ae rfl (aM Tryz.call67 rfl (C8 W0 _ qs (List.replicate (aQ c) bi) (by rw [hlr]; omega) (by rw [hlr]; omega))) ?_
  rintro _ B_ ⟨pb, rfl, hB_⟩
  obtain rfl := hB_.symm
  rw [hlr, ← wj]
  refine au 14 ?_
  refine ce (fun f : Nat => f ≤ aQ c) (fun f => [(1, .slice none 0 0), (2, pV b2), (8, pV qs), (10, pV pb), (12, .int .i64 f)]) (fun f => pt b2 (cJ c) :: cB pb (qs, cF c f) :: cq qs (List.replicate (aQ c) bi) :: R) (fun f => aQ c - f) 0 ?_ ?_ ?_ ?_
  ·exact Nat.zero_le _
  ·repeat (first | exact aJ | refine aG rfl ?_)
  ·exact inferInstance
  ·intro f hf
   refine au 2 ?_
   refine ku (qs := qs) fun a2 c2 vs hv => ?_
   rw [hlr]
   refine au 10 ?_
   refine ai rfl ?_ ?_
   ·intro c7
    refine au 2 ?_
    refine gn (fun _ : Unit => f < aQ c) (fun _ => [(1, .slice none 0 0), (2, pV b2), (8, pV qs), (10, pV pb), (12, .int .i64 f)]) (fun _ => pt b2 (cJ c) :: cB pb (qs, cF c (f + 1)) :: cq qs (List.replicate (aQ c) bi) :: R) ?_ ?_
    ·skip
     refine au 2 ?_
     have hf1 : f < aQ c := by omega
     refine eN (B := cq qs (List.replicate (aQ c) bi) :: pt b2 (cJ c) :: cB pb (qs, cF c f) :: R) (by have := sg (R := pt b2 (cJ c) :: cB pb (qs, cF c f) :: R) (qs := qs) (c := c2) (a := a2) hv; rw [hlr] at this; exact this) ?_
     have hos := lE (i := (fb c f).getD 0) hr hf1
     have hon := xa hr hf1
     refine au 3 ?_
     refine ae rfl (aF Tryz.call68 rfl (CJ W0 _ c h f hr (by rw [aQ] at hf1; omega))) ?_
     rintro _ B_ ⟨rfl, hB_⟩
     obtain rfl := hB_.symm
     refine ae rfl (cd jb) ?_
     rintro _ _ ⟨b9, rfl, rfl⟩
     refine b0 (bS gI rfl rfl rfl rfl rfl) ?_
     rintro _ _ rfl
     refine au 9 ?_
     refine ai rfl ?_ ?_
     ·intro c10
      obtain ⟨i, hi⟩ : ∃ i, fb c f = some i := by
       cases e : fb c f with
       | some i => exact ⟨i, rfl⟩
       | none => have := hon e; rw [this] at c10; exact absurd c10 (by decide)
      have hov := lE hr hf1 hi
      have hi4 := ((oL hR).1 hi).1
      have hps := wk hf1 hi
      refine au 4 ?_
      refine aa rfl (am aT rfl (aH (by rw [hov]; rfl : (oO (iK c f))[1]? = some (.int .i64 (i : Int))))) ?_
      refine ae rfl (eE Tryz.call69 rfl (Cb W0 _ pb qs (cF c f) (List.replicate (aQ c) bi) f i (by rw [ly]; exact hf1) (by rw [hlr]; exact hf1) (by omega) (by rw [oM hf1, if_neg (by omega)]))) ?_
      rintro _ B_ ⟨rfl, hB_⟩
      obtain rfl := hB_.symm
      rw [x9, ← hps]
      refine au 3 ?_
      refine d8 () ?_ ?_ ?_
      ·exact hf1
      ·repeat (first | exact aJ | refine aG rfl ?_)
      ·exact inferInstance
     ·intro c10
      have hps : cF c (f + 1) = cF c f := by
       cases e : fb c f with
       | none => exact wl e
       | some i => have := lE hr hf1 e; rw [this] at c10; exact absurd rfl c10
      refine au 3 ?_
      refine d8 () ?_ ?_ ?_
      ·exact hf1
      ·repeat (first | exact aJ | refine aG rfl ?_)
      ·rw [hps]
       exact inferInstance
    ·intro _ hf1
     refine au 2 ?_
     refine aa rfl (bj rfl rfl (by first | exact aK (by omega) | rfl)) ?_
     refine au 3 ?_
     refine bU (f + 1) ?_ ?_ ?_ ?_
     ·omega
     ·omega
     ·repeat (first | exact aJ | refine aG rfl ?_)
     ·exact inferInstance
   ·intro c7
    refine au 6 ?_
    obtain rfl : f = aQ c := by omega
    refine eN (B := cq qs (List.replicate (aQ c) bi) :: pt b2 (cJ c) :: cB pb (qs, cF c (aQ c)) :: R) (by have := sg (R := pt b2 (cJ c) :: cB pb (qs, cF c (aQ c)) :: R) (qs := qs) (c := c2) (a := a2) hv; rw [hlr] at this; exact this) ?_
    refine au 3 ?_
    refine ae rfl (aF Tryz.call70 rfl (DL W0 _ c.ra c.rc c.rl (h.ok.r _) (by omega) (fun x hx => by have := (hrb x hx).2; omega))) ?_
    rintro _ B_ ⟨p, Y, rfl, hB_, _, hY⟩
    obtain rfl := hB_.symm
    obtain ⟨db, rfl, rfl⟩ := hY dx hdx
    rw [hdx, show (if (some dx).isSome = true then (0 : Int) else 14) = 0 from rfl]
    simp only [List.cons_append, List.nil_append]
    refine au 14 ?_
    refine ce (fun _ : Unit => True) (fun _ => [(1, .slice none 0 0), (2, pV b2), (8, pV qs), (10, pV pb), (14, pV db), (16, .int .i64 0)]) (fun _ => pt b2 (cJ c) :: cB pb (qs, cF c (aQ c)) :: cq qs (List.replicate (aQ c) bi) :: R) (fun _ => 0) () ?_ ?_ ?_ ?_
    ·trivial
    ·repeat (first | exact aJ | refine aG rfl ?_)
    ·exact inferInstance
    ·intro _ _
     refine au 9 ?_
     refine ai rfl ?_ ?_
     ·intro c14
      omega
     ·intro c14
      refine au 9 ?_
      refine ae rfl (aF Tryz.call72 rfl (Dz W0 _ c.pl c.pa c.pl.length c.pc rfl (h.ok.p _))) ?_
      rintro _ B_ (⟨_, qb, rfl, hB_⟩ | ⟨hno, _, _⟩)
      rotate_left
      ·rw [hpo] at hno; cases hno
      obtain rfl := hB_.symm
      refine au 15 ?_
      refine ae rfl (aF Tryz.call73 rfl (DN W0 _ c.cats c.gate c.quota z1 z2 z3)) ?_
      rintro _ B_ ⟨gb, rfl, hB_⟩
      obtain rfl := hB_.symm
      refine au 15 ?_
      refine aa rfl (bI yx Tryz.zeroValue103 (aA dM (aA jP (aA nu (aA Tryz.sizeOf99 (aA Tryz.sizeOf100 (aA Tryz.sizeOf101 bH)))))) (i5 rfl dM rfl rfl (Nat.le_of_ble_eq_true rfl) SetRL.eq (aS rfl jP rfl rfl (Nat.le_of_ble_eq_true rfl) SetL.eq (aS rfl nu rfl rfl (Nat.le_of_ble_eq_true rfl) SetL.eq (aS rfl Tryz.sizeOf99 rfl rfl (Nat.le_of_ble_eq_true rfl) SetL.eq (aS rfl Tryz.sizeOf100 rfl rfl (Nat.le_of_ble_eq_true rfl) SetL.eq (aS rfl Tryz.sizeOf101 rfl rfl (Nat.le_of_ble_eq_true rfl) SetL.eq bG))))))) ?_
      refine ae rfl (bw rfl) ?_
      rintro _ _ ⟨wb, rfl, rfl⟩
      refine au 5 ?_
      refine ah (.inl rfl) (.cons (ac rfl) (.cons (ac rfl) .nil)) ?_
      exact ⟨_, ⟨wb, qs, pb, db, qb, gb, rfl, rfl⟩, inferInstance⟩
theorem mR (W0 : World) (R : List HP) (hb : Nat) (c : Cfg) (ps pb db qb gb : Nat) : ao Tryz.prog W0 32 [pV hb] (pt hb (aj (eR c ps pb db qb gb) 119) :: R) (fun v B => v = .bool false ∧ B = pt hb (aj (eR c ps pb db qb gb) 119) :: R) := by
 refine d5 Tryz.func32 Tryz.ntmps32 rfl rfl ?_
 refine al (az (aa rfl (ax rfl) (aw (ak (al (az (aa rfl (ag rfl) (aa rfl (jT sT rfl rfl) (aa rfl (ag rfl) ?_)))))))))
 refine aZ rfl rfl rfl ?_ ?_
 ·intro g1_3
  cases g1_3
 ·intro g1_3
  refine aa rfl (ag rfl) (aY rfl rfl (aa rfl (aU rfl) (aY rfl rfl ?_)))
  refine aa rfl (ap rfl gW rfl iN rfl (by first | exact Nat.zero_add _ | rfl)) ?_
  refine aY rfl rfl (aa rfl (am mV rfl (aH rfl)) ?_)
  refine aY rfl rfl (aa rfl (jT Fy rfl rfl) (aa rfl (d4 rfl rfl) (aa rfl (ax rfl) (aw (ak (bY (ah (.inl rfl) (.cons (ac rfl) .nil) ?_)))))))
  exact ⟨_, ⟨rfl, rfl⟩, inferInstance⟩
theorem DU (W0 : World) (R : List HP) (hb : Nat) (c : Cfg) (ps pb db qb gb : Nat) : ao Tryz.prog W0 21 [pV hb] (pt hb (aj (eR c ps pb db qb gb) 119) :: R) (fun v B => v = pV ps ∧ B = pt hb (aj (eR c ps pb db qb gb) 119) :: R) := by
 refine d5 Tryz.func21 Tryz.ntmps21 rfl rfl ?_
 refine al (az (aa rfl (ax rfl) (aw (ak (al (al (az (aa rfl (ag rfl) (ae rfl (aM pH rfl (mR W0 _ hb c ps pb db qb gb)) ?_)))))))))
 rintro _ B_ ⟨rfl, hB_⟩
 obtain rfl := hB_.symm
 refine aw (ak ?_)
 refine ai rfl ?_ ?_
 ·intro c1
  exact absurd c1 (by decide)
 ·intro c1
  refine cy (ak (al (az (aa rfl (ag rfl) (aa rfl (aU rfl) ?_)))))
  refine aa rfl (ap rfl gW rfl iN rfl (by first | exact Nat.zero_add _ | rfl)) ?_
  refine aa rfl (am mV rfl (aH rfl)) ?_
  refine aa rfl (ax rfl) (aw (ak (bY (ah (.inl rfl) (.cons (ac rfl) .nil) ?_))))
  exact ⟨_, ⟨rfl, rfl⟩, inferInstance⟩
theorem DV (W0 : World) (R : List HP) (hb : Nat) (c : Cfg) (ps pb db qb gb : Nat) : ao Tryz.prog W0 29 [pV hb] (pt hb (aj (eR c ps pb db qb gb) 119) :: R) (fun v B => v = pV pb ∧ B = pt hb (aj (eR c ps pb db qb gb) 119) :: R) := by
 refine d5 Tryz.func29 Tryz.ntmps29 rfl rfl ?_
 refine al (az (aa rfl (ax rfl) (aw (ak (al (al (az (aa rfl (ag rfl) (ae rfl (aM pH rfl (mR W0 _ hb c ps pb db qb gb)) ?_)))))))))
 rintro _ B_ ⟨rfl, hB_⟩
 obtain rfl := hB_.symm
 refine aw (ak ?_)
 refine ai rfl ?_ ?_
 ·intro c1
  exact absurd c1 (by decide)
 ·intro c1
  refine cy (ak (al (az (aa rfl (ag rfl) (aa rfl (aU rfl) ?_)))))
  refine aa rfl (ap rfl gW rfl nt rfl (by first | exact Nat.zero_add _ | rfl)) ?_
  refine aa rfl (am Tryz.isAgg92 rfl (aH rfl)) ?_
  refine aa rfl (ax rfl) (aw (ak (bY (ah (.inl rfl) (.cons (ac rfl) .nil) ?_))))
  exact ⟨_, ⟨rfl, rfl⟩, inferInstance⟩
structure GC (rb vb pv tr : Nat) (cs : List Value) : Prop where
  len : cs.length = 28
  cr : cs[0]? = some (pV rb)
  cv : cs[6]? = some (pV vb)
  rd : ∀ k, k < 4 → cs[9 + k * 1]? = some (wV 0)
  cw : cs[24]? = some (pV pv)
  ct : cs[26]? = some (pV tr)
  cc : cs[27]? = some (.int .i64 0)
structure Gs where
  rl : List Nat
  pc : Nat
  es : List Evt
  fresh : Bool
def eZ (gb : Nat) (x : Gs) : HP := chk (fun C => ∃ cs rb vb pv tr o, GC rb vb pv tr cs ∧ x.rl.length = 16 ∧ (x.fresh = true → o = ib) ∧ C = [pt gb (aj cs 139), pt rb (bD x.rl x.pc), bO tr x.es, pt vb o])
def fm : Gs := ⟨List.replicate 16 0, 0, [], true⟩
theorem DW {R : List HP} {gb rb vb pv tr : Nat} {cs : List Value} {o : Obj} {x : Gs} (h : GC rb vb pv tr cs) (h1 : x.rl.length = 16) (h2 : x.fresh = true → o = ib) : Ent (pt gb (aj cs 139) :: pt rb (bD x.rl x.pc) :: bO tr x.es :: pt vb o :: R) (eZ gb x :: R) :=
 eF (R := R) (C := [_, _, _, _]) ⟨cs, rb, vb, pv, tr, o, h, h1, h2, rfl⟩
theorem xe {W0 : World} {N : FSz} {K : Act → World → Prop} {e : bq} {A R : List HP} {gb : Nat} {x : Gs} [hk : Tk eZ gb A x R] (h : ∀ cs rb vb pv tr o, GC rb vb pv tr cs → x.rl.length = 16 → (x.fresh = true → o = ib) → aE W0 N K e (pt gb (aj cs 139) :: pt rb (bD x.rl x.pc) :: bO tr x.es :: pt vb o :: R)) : aE W0 N K e A :=
 dP (r := eZ) (b := gb) (iU fun C hC => by obtain ⟨cs, rb, vb, pv, tr, o, h1, h2, h3, rfl⟩ := hC; exact h cs rb vb pv tr o h1 h2 h3)
theorem DY {x : Bd} {q0 q1 q2 : Nat} {c : Cfg} {i : Nat} {wv : Value} {pb pv bx tr : Nat} : GC x.r x.v pv tr (oW x q0 q1 q2 c i wv pb pv bx tr) := ⟨rfl, rfl, rfl, fun k hk => by
 have : k = 0 ∨ k = 1 ∨ k = 2 ∨ k = 3 := by omega
 rcases this with rfl | rfl | rfl | rfl <;> rfl, rfl, rfl, rfl⟩
theorem DZ {l : List HP} {x : HP} {R : List HP} : Ent (x :: kH 2 (aX l) :: R) (kH 2 (aX (l ++ [x])) :: R) := wK (l := l) (x := x) (R := R)
theorem so {who : Nat} {x : Im} : ∀ n, (cD who [] n x).fr = x.fr
 | 0 => rfl
 | n + 1 => by
  rw [cD, fI]
  split
  ·show eH _ (cz [] n) 0 _ = _
   rw [show cz [] n = [] by simp [cz]]
   exact so n
  ·exact so n
theorem E0 {c : Cfg} {i : Nat} {fr : List bJ} {po : Po} : (laid c i [] fr po).fr = fr := by
 rw [laid, show bA [] (cA c i).2.1.toNat = [] by simp [bA]]; exact so _
theorem E1 {c : Cfg} {i j : Nat} {ws : List Nat} {fr : List bJ} {po : Po} (h : j ≠ i) : bB (laid c i ws fr po).po j = bB po j := uF h _
theorem E2 {l : List Nat} {g : Nat} {R : List HP} : Ent (eZ g fm :: kH 2 (aX (l.map fun g => eZ g fm)) :: R) (kH 2 (aX ((l ++ [g]).map fun g => eZ g fm)) :: R) := by
 rw [List.map_append]; exact DZ
abbrev p7 (c : Cfg) (hb ps pb db qb gb : Nat) (a : Option Addr) (cap : Nat) (gbs : List Nat) (R : List HP) : List HP := pt hb (aj (eR c ps pb db qb gb) 119) :: pt gb (gU c.cats c.gate c.quota) :: bn ps (List.replicate (aQ c) bi) :: osl 50 1 (.slice a gbs.length cap) (gbs.map pV) :: kH 2 (aX (gbs.map fun g => eZ g fm)) :: R
theorem E3 {A B : List HP} (k : Ent A B) : Ent A (kH 2 (aX []) :: B) := (fC (A := []) (R := A)).trans (Ent.cons k)
theorem E4 {c : Cfg} {hb ps pb db qb gb wb qs rpb x y z b3 : Nat} {dk : Dk} {R : List HP} : Ent (pt wb (aj (kC c qs rpb x y z) 103) :: cB rpb (qs, cF c (aQ c)) :: cq qs (List.replicate (aQ c) bi) :: pt hb (aj (eR c ps pb db qb gb) 119) :: bn ps (List.replicate (aQ c) bi) :: cH pb (ps, cF c (aQ c)) :: jI db dk :: ol qb (fP c.pl) :: pt gb (gU c.cats c.gate c.quota) :: pt b3 (cJ c) :: R)
  (pt b3 (cJ c) :: p7 c hb ps pb db qb gb none 0 [] (cH pb (ps, cF c (aQ c)) :: pt wb (aj (kC c qs rpb x y z) 103) :: cB rpb (qs, cF c (aQ c)) :: cq qs (List.replicate (aQ c) bi) :: osl 94 1 (.slice none 0 0) [] :: R)) := by
 refine Ent.trans (B := pt b3 (cJ c) :: pt hb (aj (eR c ps pb db qb gb) 119) :: pt gb (gU c.cats c.gate c.quota) :: bn ps (List.replicate (aQ c) bi) :: cH pb (ps, cF c (aQ c)) :: pt wb (aj (kC c qs rpb x y z) 103) :: cB rpb (qs, cF c (aQ c)) :: cq qs (List.replicate (aQ c) bi) :: R) inferInstance ?_
 refine Ent.cons (Ent.cons (Ent.cons (Ent.cons ?_)))
 refine fj (E := 50) (sz := 1) (k := ?_)
 refine E3 ?_
 exact Ent.cons (Ent.cons (Ent.cons (Ent.cons (fj (E := 94) (sz := 1)))))
theorem E5 (W0 : World) (R : List HP) (c : Cfg) (h : CfK W0 c) (hr : rt c = false) :
  ao Tryz.prog W0 11 [.agg (bF c).toArray, .slice none 0 0, .slice none 0 0] R (fun v B => v = .tuple #[.pointer none, .slice none 0 0, .pointer none, .slice none 0 0, .bool true] ∧ B = R) := by
 refine aD Tryz.func11 Tryz.ntmps11 rfl rfl ?_
 refine au 2 ?_
 refine ae rfl (bw rfl) ?_
 rintro _ _ ⟨b3, rfl, rfl⟩
 refine au 11 ?_
 refine ae rfl (aF Tryz.call26 rfl (DG W0 _ c h hr)) ?_
 rintro _ B_ ⟨rfl, hB_⟩
 obtain rfl := hB_.symm
 refine au 11 ?_
 refine ae rfl (aF Tryz.call27 rfl (DO W0 _ c h hr)) ?_
 rintro _ B_ ⟨rfl, hB_⟩
 obtain rfl := hB_.symm
 refine au 14 ?_
 refine aZ rfl rfl rfl ?_ ?_
 ·intro g3_4
  exact absurd rfl g3_4
 ·intro g3_4
  refine au 8 ?_
  refine aa rfl (tU pI rfl rfl) ?_
  refine au 3 ?_
  refine ai rfl ?_ ?_
  ·intro c3
   exact absurd rfl c3
  ·intro c3
   refine au 9 ?_
   refine ai rfl ?_ ?_
   ·intro c5
    refine au 11 ?_
    refine ah (.inl rfl) (.cons (ac rfl) (.cons (ac rfl) (.cons (ac rfl) (.cons (ac rfl) (.cons (ac rfl) .nil))))) ?_
    exact ⟨_, ⟨rfl, rfl⟩, inferInstance⟩
   ·intro c5
    exact absurd rfl c5
theorem xf (W0 : World) (R : List HP) (c : Cfg) (h : CfK W0 c) (hr : rt c = true) :
  ao Tryz.prog W0 11 [.agg (bF c).toArray, .slice none 0 0, .slice none 0 0] R
   (fun v B => ∃ hb ps pb db qb gb wb a cap a2 n2 cap2 gbs, gbs.length = c.gl.length ∧ v = .tuple #[pV hb, .slice a gbs.length cap, pV wb, .slice a2 n2 cap2, .bool true] ∧ B = p7 c hb ps pb db qb gb a cap gbs R) := by
 have hR := eQ hr
 have hnd := hR.nd
 have hg4 := hR.g4
 have hn : 0 < aQ c ∧ aQ c ≤ 32 := by rw [aQ]; omega
 have hlr : (List.replicate (aQ c) bi).length = aQ c := by simp
 refine aD Tryz.func11 Tryz.ntmps11 rfl rfl ?_
 refine au 2 ?_
 refine ae rfl (bw rfl) ?_
 rintro _ _ ⟨bc, rfl, rfl⟩
 refine au 11 ?_
 refine ae rfl (aF Tryz.call26 rfl (DF W0 _ c h hr)) ?_
 rintro _ B_ ⟨hb, ps, pb, db, qb, gb, dx, rfl, hB_⟩
 obtain rfl := hB_.symm
 refine au 11 ?_
 refine ae rfl (aF Tryz.call27 rfl (DT W0 _ c h hr)) ?_
 rintro _ B_ ⟨wb, qs, rpb, x, y, z, rfl, hB_⟩
 obtain rfl := hB_.symm
 refine au 14 ?_
 refine aZ rfl rfl rfl ?_ ?_
 ·intro g3_4
  exact absurd g3_4 (by decide)
 ·intro g3_4
  refine au 8 ?_
  refine aa rfl (tU pI rfl rfl) ?_
  refine au 3 ?_
  refine ai rfl ?_ ?_
  ·intro c3
   exact absurd rfl c3
  ·intro c3
   refine au 9 ?_
   refine ai rfl ?_ ?_
   ·intro c5
    cases c5
   ·intro c5
    refine au 19 ?_
    refine ce (fun X : Nat × List Nat × List Nat × (Option Addr × Nat) × (Option Addr × Nat) × Po => X.1 ≤ c.gl.length ∧ X.2.1.length = X.1 ∧ X.2.2.1.length = X.1 ∧ PoOk X.2.2.2.2.2 ∧ X.2.2.2.2.2.length = aQ c ∧ ∀ j, X.1 ≤ j → j < c.gl.length → (cA c j).2.1 ≤ ((bB X.2.2.2.2.2 j).length : Int)) (fun X => [(2, .slice none 0 0), (3, pV bc), (11, pV hb), (13, pV wb), (15, .slice X.2.2.2.1.1 X.2.1.length X.2.2.2.1.2), (16, .slice X.2.2.2.2.1.1 X.2.2.1.length X.2.2.2.2.1.2), (17, .int .i64 X.1)]) (fun X => pt bc (cJ c) :: p7 c hb ps pb db qb gb X.2.2.2.1.1 X.2.2.2.1.2 X.2.1 (cH pb (ps, X.2.2.2.2.2) :: pt wb (aj (kC c qs rpb x y z) 103) :: cB rpb (qs, X.2.2.2.2.2) :: cq qs (List.replicate (aQ c) bi) :: osl 94 1 (.slice X.2.2.2.2.1.1 X.2.2.1.length X.2.2.2.2.1.2) (X.2.2.1.map pV) :: R)) (fun X => c.gl.length - X.1) (0, [], [], (none, 0), (none, 0), cF c (aQ c)) ?_ ?_ ?_ ?_
    ·refine ⟨Nat.zero_le _, rfl, rfl, wm hR _, ly _ _, fun j _ hj => ?_⟩
     have := CF hR hj
     have := hR.gs j hj
     show (cA c j).2.1 ≤ ((bB (cF c (aQ c)) j).length : Int)
     omega
    ·repeat (first | exact aJ | refine aG rfl ?_)
    ·exact E4
    ·intro ⟨i, gbs, wbs, ⟨a, cap⟩, ⟨a2, cap2⟩, po⟩ ⟨hi, hgl, hwl, hpo, hpl, hfr⟩
     dsimp only at hi hgl hwl hpo hpl hfr ⊢
     refine au 10 ?_
     refine ai rfl ?_ ?_
     ·intro c10
      refine au 18 ?_
      refine ai rfl ?_ ?_
      ·intro c13
       omega
      ·intro c13
       refine au 3 ?_
       have hi1 : i < c.gl.length := by omega
       have hlok : ImOk (laid c i [] (List.replicate (aQ c) bi) po) := ki (by omega) ⟨dJ.new _, hpo, oV, by rw [hlr]; exact hpl⟩
       have hlf := E0 (c := c) (i := i) (fr := List.replicate (aQ c) bi) (po := po)
       obtain ⟨po2, hpo2⟩ : ∃ po2, (laid c i [] (List.replicate (aQ c) bi) po).po = po2 := ⟨_, rfl⟩
       have hlo : ∀ j, j ≠ i → bB po2 j = bB po j := fun j hj => by rw [← hpo2]; exact E1 hj
       have hok2 : PoOk po2 := by rw [← hpo2]; exact hlok.po
       have hpl2 : po2.length = aQ c := by rw [← hpo2, hlok.len, hlf]; exact hlr
       refine bR [(bc, 0, _)] 13 bQ rfl (aC aB) (fun hS => ?_)
       refine ab 0 rfl rfl rfl hS (cj gC dM rfl (cT (k := 0) rfl) rfl) ?_
       refine ab 1 rfl rfl rfl hS (ag rfl) ?_
       refine ab 2 rfl rfl rfl hS (ag rfl) ?_
       refine ab 4 rfl rfl rfl hS (ag rfl) ?_
       refine ab 6 rfl rfl rfl hS (ag rfl) ?_
       refine aW 3 (by kernel_rfl) rfl rfl (aM Tryz.call21 rfl (DU W0 _ hb c ps pb db qb gb)) rfl ?_; clear hS
       rintro _ B_ ⟨rfl, hB_⟩
       obtain rfl := hB_.symm
       refine ⟨(aC aB), fun hS => ?_⟩
       refine aW 5 (by kernel_rfl) rfl rfl (aM Tryz.call29 rfl (DV W0 _ hb c ps pb db qb gb)) rfl ?_; clear hS
       rintro _ B_ ⟨rfl, hB_⟩
       obtain rfl := hB_.symm
       refine ⟨(aC aB), fun hS => ?_⟩
       refine aW 7 (by kernel_rfl) rfl rfl (eE Tryz.call28 rfl (Dm W0 _ c h hr i hi1 ps pb (List.replicate (aQ c) bi) po (dJ.new _) hpo (by rw [hlr]; exact hpl) (by rw [hlr]; omega) (hfr i (Nat.le_refl _) hi1) none 0 [] (fun A => qI) (fun y hy => by cases hy) (by decide))) rfl ?_; clear hS
       rintro _ B_ ⟨g, bd, bt, bs, q0, q1, q2, wg, pv, pm, bx, tr, rfl, hB_⟩
       obtain rfl := hB_.symm
       rw [hlf, hpo2]
       refine ⟨(aC aB), fun hS => ?_⟩
       refine ab 8 rfl rfl rfl hS (ag rfl) ?_
       refine ab 9 rfl rfl rfl hS (bZ rfl rfl) ?_
       refine ab 10 rfl rfl rfl hS (bZ rfl rfl) ?_
       refine ab 11 rfl rfl rfl hS (ax rfl) ?_
       refine ab 12 rfl rfl rfl hS (ax rfl) ?_
       refine bz (by kernel_rfl) ?_; clear hS
       refine au 2 ?_
       refine dP (r := pt) (b := bd.v) ?_
       refine dP (r := bO) (b := tr) ?_
       refine dP (r := pt) (b := bd.r) ?_
       refine dP (r := pt) (b := g) ?_
       refine eN (DW (x := fm) DY rfl (fun _ => rfl)) ?_
       refine eN (B := eZ g fm :: cH pb (ps, po2) :: bn ps (List.replicate (aQ c) bi) :: pt hb (aj (eR c ps pb db qb gb) 119) :: pt bc (cJ c) :: pt gb (gU c.cats c.gate c.quota) :: osl 50 1 (.slice a gbs.length cap) (gbs.map pV) :: kH 2 (aX (gbs.map fun g => eZ g fm)) :: pt wb (aj (kC c qs rpb x y z) 103) :: cB rpb (qs, po) :: cq qs (List.replicate (aQ c) bi) :: osl 94 1 (.slice a2 wbs.length cap2) (wbs.map pV) :: R) (Ent.cons inferInstance) ?_
       refine bR [(bc, 0, _), (wb, 0, _)] 17 bQ rfl (aC (aC aB)) (fun hS => ?_)
       refine ab 0 rfl rfl rfl hS (cj gC dM rfl (by first | exact cT (k := 0) rfl | exact cT (k := 1) rfl) rfl) ?_
       refine ab 1 rfl rfl rfl hS (ag rfl) ?_
       refine ab 2 rfl rfl rfl hS (ag rfl) ?_
       refine ab 3 rfl rfl rfl hS (aU rfl) ?_
       refine ab 4 rfl rfl rfl hS (ap rfl yx rfl jP rfl (by first | exact Nat.zero_add _ | rfl)) ?_
       refine ab 5 rfl rfl rfl hS (am xB rfl (by first | exact av (k := 0) rfl rfl | exact av (k := 1) rfl rfl)) ?_
       refine ab 6 rfl rfl rfl hS (ag rfl) ?_
       refine ab 7 rfl rfl rfl hS (aU rfl) ?_
       refine ab 8 rfl rfl rfl hS (ap rfl yx rfl nu rfl (by first | exact Nat.zero_add _ | rfl)) ?_
       refine ab 9 rfl rfl rfl hS (am Tryz.isAgg98 rfl (by first | exact av (k := 0) rfl rfl | exact av (k := 1) rfl rfl)) ?_
       refine ab 10 rfl rfl rfl hS (ag rfl) ?_
       refine aW 11 (by kernel_rfl) rfl rfl (eE Tryz.call30 rfl (Dr W0 _ c h hr i hi1 qs rpb (List.replicate (aQ c) bi) po (dJ.new _) hpo (by rw [hlr]; exact hpl) (by rw [hlr]; omega) (hfr i (Nat.le_refl _) hi1) none 0 [] (fun A => qI) (fun y hy => by cases hy) (by decide) (Nat.le_refl _))) rfl ?_; clear hS
       rintro _ B_ ⟨w, rfl, hB_⟩
       obtain rfl := hB_.symm
       rw [hlf, hpo2]
       refine ⟨(aC (aC aB)), fun hS => ?_⟩
       refine ab 12 rfl rfl rfl hS (ag rfl) ?_
       refine ab 13 rfl rfl rfl hS (bZ rfl rfl) ?_
       refine ab 14 rfl rfl rfl hS (bZ rfl rfl) ?_
       refine ab 15 rfl rfl rfl hS (ax rfl) ?_
       refine ab 16 rfl rfl rfl hS (ax rfl) ?_
       refine bz (by kernel_rfl) ?_; clear hS
       refine au 8 ?_
       refine aZ rfl rfl rfl ?_ ?_
       ·intro g17_4
        exact absurd g17_4 (by decide)
       ·intro g17_4
        refine au 5 ?_
        refine aZ rfl rfl rfl ?_ ?_
        ·intro g17_8
         first | exact absurd g17_8 (by decide) | (cases g17_8)
        ·intro g17_8
         refine au 6 ?_
         refine ai rfl ?_ ?_
         ·intro c17
          first | exact absurd c17 (by decide) | (cases c17)
         ·intro c17
          refine au 6 ?_
          refine ae rfl (g6 ff fg Tryz.zeroValue50 rfl rfl rfl rfl rfl (by decide) (by decide)) ?_
          rintro _ _ ⟨b2, rfl, rfl⟩
          refine ae rfl (dy (sz := 1) (by_ := 8) (info := Tryz.t50) ff (by kernel_rfl) rfl rfl rfl rfl (by decide) rfl rfl dz rfl rfl (by simp only [maxLen]; omega) (by omega)) ?_
          rintro _ _ ⟨a3, c3, rfl, rfl⟩
          refine au 6 ?_
          refine ae rfl (g6 FB Tryz.sizeOf94 Tryz.zeroValue94 rfl rfl rfl rfl rfl (by decide) (by decide)) ?_
          rintro _ _ ⟨b3, rfl, rfl⟩
          refine ae rfl (dy (sz := 1) (by_ := 8) (info := Tryz.t94) FB (by kernel_rfl) rfl rfl rfl rfl (by decide) rfl rfl dz rfl rfl (by simp only [maxLen]; omega) (by omega)) ?_
          rintro _ _ ⟨a4, c4, rfl, rfl⟩
          refine au 6 ?_
          refine aa rfl (bj rfl rfl (by first | exact aK (by omega) | rfl)) ?_
          refine au 3 ?_
          refine bU (i + 1, gbs ++ [g], wbs ++ [w], (a3, c3), (a4, c4), po2) ?_ ?_ ?_ ?_
          ·refine ⟨by omega, by show (gbs ++ [g]).length = i + 1; simp [hgl], by show (wbs ++ [w]).length = i + 1; simp [hwl], hok2, hpl2, fun j h1 h2 => ?_⟩
           show (cA c j).2.1 ≤ ((bB po2 j).length : Int)
           rw [hlo j (by omega)]
           exact hfr j (by omega) h2
          ·show c.gl.length - (i + 1) < c.gl.length - i; omega
          ·dsimp only
           rw [show (gbs ++ [g]).length = gbs.length + 1 by simp, show (wbs ++ [w]).length = wbs.length + 1 by simp]
           repeat (first | exact aJ | refine aG rfl ?_)
          ·dsimp only
           refine Ent.trans (B := eZ g fm :: kH 2 (aX (gbs.map fun g => eZ g fm)) :: pt bc (cJ c) :: pt hb (aj (eR c ps pb db qb gb) 119) :: pt gb (gU c.cats c.gate c.quota) :: bn ps (List.replicate (aQ c) bi) :: osl 50 1 (.slice a3 (gbs.length + 1) c3) (gbs.map pV ++ [pV g]) :: cH pb (ps, po2) :: pt wb (aj (kC c qs rpb x y z) 103) :: cB rpb (qs, po2) :: cq qs (List.replicate (aQ c) bi) :: osl 94 1 (.slice a4 (wbs.length + 1) c4) (wbs.map pV ++ [pV w]) :: R) inferInstance ?_
           refine Ent.trans E2 ?_
           unfold p7
           rw [show (gbs ++ [g]).length = gbs.length + 1 by simp, show (gbs ++ [g]).map pV = gbs.map pV ++ [pV g] by simp, show (wbs ++ [w]).length = wbs.length + 1 by simp, show (wbs ++ [w]).map pV = wbs.map pV ++ [pV w] by simp]
           exact inferInstance
     ·intro c10
      refine au 19 ?_
      refine ah (.inl rfl) (.cons (ac rfl) (.cons (ac rfl) (.cons (ac rfl) (.cons (ac rfl) (.cons (ac rfl) .nil))))) ?_
      obtain rfl : i = c.gl.length := by omega
      exact ⟨_, ⟨hb, ps, pb, db, qb, gb, wb, a, cap, a2, wbs.length, cap2, gbs, hgl, rfl, rfl⟩, inferInstance⟩
abbrev bE (cs : List Value) : Obj := aj cs 139
section
variable {rb vb pv tr : Nat} {cs : List Value}
theorem lF (W0 : World) (R : List HP) (gb : Nat) (h : GC rb vb pv tr cs) : ao Tryz.prog W0 39 [pV gb] (pt gb (bE cs) :: R) (fun v B => v = .bool false ∧ B = pt gb (bE cs) :: R) := by
 refine aD Tryz.func39 Tryz.ntmps39 rfl rfl ?_
 refine au 10 ?_
 refine aZ rfl rfl rfl ?_ ?_
 ·intro g1_3
  cases g1_3
 ·intro g1_3
  refine au 6 ?_
  refine aa rfl (am Tryz.isAgg136 rfl (aH h.cw)) ?_
  refine au 7 ?_
  refine ah (.inl rfl) (.cons (ac rfl) .nil) ?_
  exact ⟨_, ⟨rfl, rfl⟩, inferInstance⟩
theorem sq (W0 : World) (R : List HP) (gb : Nat) (rl : List Nat) (pc : Nat) (h : GC rb vb pv tr cs) (hl : rl.length = 16) : ao Tryz.prog W0 16 [pV gb] (pt gb (bE cs) :: pt rb (bD rl pc) :: R) (fun v B => v = .agg (rl.map wV).toArray ∧ B = pt gb (bE cs) :: pt rb (bD rl pc) :: R) := by
 refine aD Tryz.func16 Tryz.ntmps16 rfl rfl ?_
 refine au 2 ?_
 refine ae rfl (cd yk) ?_
 rintro _ _ ⟨b1, rfl, rfl⟩
 refine au 6 ?_
 refine ae rfl (aM nv rfl (lF W0 _ gb h)) ?_
 rintro _ B_ ⟨rfl, hB_⟩
 obtain rfl := hB_.symm
 refine au 2 ?_
 refine ai rfl ?_ ?_
 ·intro c1
  exact absurd c1 (by decide)
 ·intro c1
  refine au 8 ?_
  refine aa rfl (am kN rfl (aH h.cr)) ?_
  refine ae rfl (aM Tryz.call40 rfl (wz W0 _ rb rl pc hl)) ?_
  rintro _ B_ ⟨rfl, hB_⟩
  obtain rfl := hB_.symm
  refine b0 (bS j9 rfl rfl (by rw [List.length_map, hl]) (wy rl) rfl) ?_
  rintro _ _ rfl
  refine au 3 ?_
  refine ah (.inl rfl) (.cons (fh yl j9 rfl (by rw [List.length_map, hl])) .nil) ?_
  exact ⟨_, ⟨rfl, rfl⟩, inferInstance⟩
theorem xg (W0 : World) (R : List HP) (gb : Nat) (rl : List Nat) (pc i x : Nat) (h : GC rb vb pv tr cs) (hl : rl.length = 16) (hi : i < 16) (h0 : i ≠ 0) : ao Tryz.prog W0 31 [pV gb, .int .i64 i, wV x] (pt gb (bE cs) :: pt rb (bD rl pc) :: R) (fun v B => v = .int .i64 0 ∧ B = pt gb (bE cs) :: pt rb (bD (rl.set i x) pc) :: R) := by
 refine aD Tryz.func31 Tryz.ntmps31 rfl rfl ?_
 refine au 9 ?_
 refine ae rfl (aM nv rfl (lF W0 _ gb h)) ?_
 rintro _ B_ ⟨rfl, hB_⟩
 obtain rfl := hB_.symm
 refine au 2 ?_
 refine ai rfl ?_ ?_
 ·intro c1
  exact absurd c1 (by decide)
 ·intro c1
  refine au 8 ?_
  refine aa rfl (am kN rfl (aH h.cr)) ?_
  refine au 2 ?_
  refine ae rfl (aM yy rfl (rY W0 _ rb rl pc i x hl hi h0)) ?_
  rintro _ B_ ⟨rfl, hB_⟩
  obtain rfl := hB_.symm
  refine au 4 ?_
  refine ah (.inl rfl) (.cons (ac rfl) .nil) ?_
  exact ⟨_, ⟨rfl, rfl⟩, inferInstance⟩
theorem E6 (W0 : World) (R : List HP) (gb : Nat) (h : GC rb vb pv tr cs) : ao Tryz.prog W0 24 [pV gb] (pt gb (bE cs) :: R) (fun v B => v = pV tr ∧ B = pt gb (bE cs) :: R) := by
 refine aD Tryz.func24 Tryz.ntmps24 rfl rfl ?_
 refine au 9 ?_
 refine ae rfl (aM nv rfl (lF W0 _ gb h)) ?_
 rintro _ B_ ⟨rfl, hB_⟩
 obtain rfl := hB_.symm
 refine au 2 ?_
 refine ai rfl ?_ ?_
 ·intro c1
  exact absurd c1 (by decide)
 ·intro c1
  refine au 7 ?_
  refine aa rfl (am Tryz.isAgg83 rfl (aH h.ct)) ?_
  refine au 4 ?_
  refine ah (.inl rfl) (.cons (ac rfl) .nil) ?_
  exact ⟨_, ⟨rfl, rfl⟩, inferInstance⟩
theorem E7 (W0 : World) (R : List HP) (gb : Nat) (h : GC rb vb pv tr cs) : ao Tryz.prog W0 205 [pV gb] (pt gb (bE cs) :: R) (fun v B => v = pV vb ∧ B = pt gb (bE cs) :: R) := by
 refine aD Tryz.func205 Tryz.ntmps205 rfl rfl ?_
 refine au 9 ?_
 refine ae rfl (aM nv rfl (lF W0 _ gb h)) ?_
 rintro _ B_ ⟨rfl, hB_⟩
 obtain rfl := hB_.symm
 refine au 2 ?_
 refine ai rfl ?_ ?_
 ·intro c1
  exact absurd c1 (by decide)
 ·intro c1
  refine au 8 ?_
  refine aa rfl (am Tryz.isAgg132 rfl (aH h.cv)) ?_
  refine au 4 ?_
  refine ah (.inl rfl) (.cons (ac rfl) .nil) ?_
  exact ⟨_, ⟨rfl, rfl⟩, inferInstance⟩
theorem E8 (W0 : World) (R : List HP) (b : Nat) (rl : List Nat) (pc i : Nat) (hl : rl.length = 16) (hi : i < 16) : ao Tryz.prog W0 94 [pV b, .int .i64 i] (pt b (bD rl pc) :: R) (fun v B => v = .tuple #[wV (rl.getD i 0), .int .i64 0] ∧ B = pt b (bD rl pc) :: R) := by
 have hir : jJ i = true := by simp only [jJ, decide_eq_true_eq]; omega
 have hg : (rl.map wV ++ [Value.bool true, wV pc])[i * 1]? = some (wV (rl.getD i 0)) := by
  rw [Nat.mul_one, List.getElem?_append_left (by rw [List.length_map, hl]; exact hi)]
  simp [List.getD, show i < rl.length by omega]
 refine aD Tryz.func94 Tryz.ntmps94 rfl rfl ?_
 refine au 13 ?_
 refine ai rfl ?_ ?_
 ·intro c1
  cases c1
 ·intro c1
  refine au 9 ?_
  refine ae rfl (aM Tryz.call200 rfl (wA W0 _ b rl pc hl i)) ?_
  rintro _ B_ ⟨rfl, hB_⟩
  obtain rfl := hB_.symm
  refine au 9 ?_
  refine ai rfl ?_ ?_
  ·intro c4
   exact absurd c4 (by rw [hir]; decide)
  ·intro c4
   refine au 9 ?_
   refine aa rfl (dv nr cg rfl rfl rfl hi (by first | exact Nat.zero_add _ | rfl)) ?_
   refine aa rfl (am eS rfl (aH hg)) ?_
   refine au 5 ?_
   refine ah (.inl rfl) (.cons (ac rfl) (.cons (ac rfl) .nil)) ?_
   exact ⟨_, ⟨rfl, rfl⟩, inferInstance⟩
theorem E9 (W0 : World) (R : List HP) (gb : Nat) (h : GC rb vb pv tr cs) : ao Tryz.prog W0 229 [pV gb] (pt gb (bE cs) :: R) (fun v B => v = .int .i64 0 ∧ B = pt gb (bE cs) :: R) := by
 refine aD Tryz.func229 Tryz.ntmps229 rfl rfl ?_
 refine au 10 ?_
 refine aa rfl (am aT rfl (aH h.cc)) ?_
 refine aa rfl (dG rfl rfl (r := -1) rfl) ?_
 refine aa rfl (uW rfl rfl (r := 0) rfl) ?_
 refine au 4 ?_
 refine ah (.inl rfl) (.cons (ac rfl) .nil) ?_
 exact ⟨_, ⟨rfl, rfl⟩, inferInstance⟩
theorem Ea (k ck : Int) (a b d : Nat) (rl : List Nat) (h : rl.length = 16) (zs : List Value) (hz : zs.length = 16) : setR ([.int .i64 k, .int .i64 ck, wV a, wV b, wV d] ++ zs) 5 (rl.map wV) = [.int .i64 k, .int .i64 ck, wV a, wV b, wV d] ++ rl.map wV :=
 nD (rl.map wV) zs [.int .i64 k, .int .i64 ck, wV a, wV b, wV d] (by rw [List.length_map, h, hz])
theorem Eb {S : World → Prop} {N : FSz} {e : bq} {o0 o1 o2 o3 o4 o5 : Operand} {k ck : Int} {a b d : Nat} {rl : List Nat} (hl : rl.length = 16) (h0 : ev e o0 = some (.int .i64 k)) (h1 : ev e o1 = some (.int .i64 ck)) (h2 : ev e o2 = some (wV a)) (h3 : ev e o3 = some (wV b)) (h4 : ev e o4 = some (wV d)) (h5 : ev e o5 = some (.agg (rl.map wV).toArray)) :
  bP Tryz.prog S N e (.build 389 #[(0, o0), (1, o1), (2, o2), (3, o3), (4, o4), (5, o5)]) (.agg ([Value.int .i64 k, .int .i64 ck, wV a, wV b, wV d] ++ rl.map wV).toArray) :=
 bI (l' := [Value.int .i64 k, .int .i64 ck, wV a, wV b, wV d] ++ rl.map wV) Tryz.underlying389 yq (aA ar (aA ar (aA cg (aA cg (aA cg (aA j9 bH))))))
  (aS (l' := [.int .i64 k, .int .i64 0, .int .u32 0, .int .u32 0, .int .u32 0] ++ List.replicate 16 (.int .u32 0)) rfl ar h0 rfl (Nat.le_of_ble_eq_true rfl) rfl
  (aS (l' := [.int .i64 k, .int .i64 ck, .int .u32 0, .int .u32 0, .int .u32 0] ++ List.replicate 16 (.int .u32 0)) rfl ar h1 rfl (Nat.le_of_ble_eq_true rfl) rfl
  (aS (l' := [.int .i64 k, .int .i64 ck, wV a, .int .u32 0, .int .u32 0] ++ List.replicate 16 (.int .u32 0)) rfl cg h2 rfl (Nat.le_of_ble_eq_true rfl) rfl
  (aS (l' := [.int .i64 k, .int .i64 ck, wV a, wV b, .int .u32 0] ++ List.replicate 16 (.int .u32 0)) rfl cg h3 rfl (Nat.le_of_ble_eq_true rfl) rfl
  (aS (l' := [.int .i64 k, .int .i64 ck, wV a, wV b, wV d] ++ List.replicate 16 (.int .u32 0)) rfl cg h4 rfl (Nat.le_of_ble_eq_true rfl) rfl
  (i5 rfl j9 h5 (by rw [List.length_map, hl]) (by simp) (Ea k ck a b d rl hl _ (by simp)) bG))))))
theorem Ec (W0 : World) (R : List HP) (b : Nat) (es : List Evt) (k ck : Int) (x y z : Nat) (rl : List Nat) (hl : rl.length = 16) (hn : es.length < 4096) : ao Tryz.prog W0 228 [pV b, .agg ([Value.int .i64 k, .int .i64 ck, wV x, wV y, wV z] ++ rl.map wV).toArray] (bO b es :: R) (fun v B => v = .int .i64 0 ∧ B = bO b (es ++ [⟨k, ck, x, y, z, rl⟩]) :: R) := by
 have := D5 W0 R b es ⟨k, ck, x, y, z, rl⟩ hn
 rwa [D2 (e := ⟨k, ck, x, y, z, rl⟩) hl] at this
theorem Ed (W0 : World) (R : List HP) (gb : Nat) (rl : List Nat) (pc : Nat) (es : List Evt) (k : Int) (x y z : Nat) (h : GC rb vb pv tr cs) (hl : rl.length = 16) (hn : es.length < 4096) : ao Tryz.prog W0 97 [pV gb, .int .i64 k, wV x, wV y, wV z] (pt gb (bE cs) :: pt rb (bD rl pc) :: bO tr es :: R)
  (fun v B => v = .tuple #[] ∧ B = pt gb (bE cs) :: pt rb (bD rl pc) :: bO tr (es ++ [⟨k, 0, x, y, z, rl⟩]) :: R) := by
 refine aD Tryz.func97 Tryz.ntmps97 rfl rfl ?_
 refine bR [(gb, 0, _)] 18 bQ rfl (aC aB) (fun hS => ?_)
 refine ab 0 rfl rfl rfl hS (ag rfl) ?_
 refine ab 1 rfl rfl rfl hS (aU rfl) ?_
 refine ab 2 rfl rfl rfl hS (ap rfl sQ rfl sN rfl (by first | exact Nat.zero_add _ | rfl)) ?_
 refine ab 3 rfl rfl rfl hS (am Tryz.isAgg83 rfl (av (k := 0) rfl h.ct)) ?_
 refine ab 4 rfl rfl rfl hS (ag rfl) ?_
 refine ab 5 rfl rfl rfl hS (ag rfl) ?_
 refine ab 7 rfl rfl rfl hS (ag rfl) ?_
 refine ab 8 rfl rfl rfl hS (ag rfl) ?_
 refine ab 9 rfl rfl rfl hS (ag rfl) ?_
 refine ab 10 rfl rfl rfl hS (ag rfl) ?_
 refine ab 11 rfl rfl rfl hS (aU rfl) ?_
 refine ab 12 rfl rfl rfl hS (ap rfl sQ rfl jp rfl (by first | exact Nat.zero_add _ | rfl)) ?_
 refine ab 13 rfl rfl rfl hS (ap rfl sP rfl sG rfl (by first | exact Nat.zero_add _ | rfl)) ?_
 refine ab 14 rfl rfl rfl hS (am kN rfl (av (k := 0) rfl h.cr)) ?_
 refine aW 6 (by kernel_rfl) rfl rfl (aM Tryz.call229 rfl (E9 W0 _ gb h)) rfl ?_; clear hS
 rintro _ B_ ⟨rfl, hB_⟩
 obtain rfl := hB_.symm
 refine ⟨(aC aB), fun hS => ?_⟩
 refine aW 15 (by kernel_rfl) rfl rfl (aM Tryz.call40 rfl (wz W0 _ rb rl pc hl)) rfl ?_; clear hS
 rintro _ B_ ⟨rfl, hB_⟩
 obtain rfl := hB_.symm
 refine ⟨(aC aB), fun hS => ?_⟩
 refine ab 16 rfl rfl rfl hS (Eb hl rfl rfl rfl rfl rfl rfl) ?_
 refine aW 17 (by kernel_rfl) rfl rfl (aM Tryz.call228 rfl (Ec W0 _ tr es k 0 x y z rl hl hn)) rfl ?_; clear hS
 rintro _ B_ ⟨rfl, hB_⟩
 obtain rfl := hB_.symm
 refine ⟨(aC aB), fun hS => ?_⟩
 refine bz (by kernel_rfl) ?_; clear hS
 refine ah (.inr rfl) .nil ?_
 exact ⟨_, ⟨rfl, rfl⟩, inferInstance⟩
def cW (rl : List Nat) (e w : Nat) : List Nat := (rl.set 1 e).set 2 w
theorem xh (W0 : World) (R : List HP) (gb : Nat) (rl : List Nat) (pc : Nat) (es : List Evt) (e w : Nat) (h : GC rb vb pv tr cs) (hl : rl.length = 16) (hn : es.length < 4096) (he : e < 100) (hp : pc < 1000) : ao Tryz.prog W0 35 [pV gb, .int .i64 e, wV w] (pt gb (bE cs) :: pt rb (bD rl pc) :: bO tr es :: R)
  (fun v B => v = .int .i64 0 ∧ B = pt gb (bE cs) :: pt rb (bD (cW rl e w) (pc + 4)) :: bO tr (es ++ [⟨2, 0, rl.getD 1 0, e, pc, cW rl e w⟩]) :: R) := by
 have hl2 : (cW rl e w).length = 16 := by simp [cW, hl]
 refine aD Tryz.func35 Tryz.ntmps35 rfl rfl ?_
 refine au 9 ?_
 refine ae rfl (aM nv rfl (lF W0 _ gb h)) ?_
 rintro _ B_ ⟨rfl, hB_⟩
 obtain rfl := hB_.symm
 refine au 2 ?_
 refine ai rfl ?_ ?_
 ·intro c1
  exact absurd c1 (by decide)
 ·intro c1
  refine au 8 ?_
  refine aa rfl (am kN rfl (aH h.cr)) ?_
  refine ae rfl (aM Tryz.call94 rfl (E8 W0 _ rb rl pc 1 hl (by decide))) ?_
  rintro _ B_ ⟨rfl, hB_⟩
  obtain rfl := hB_.symm
  refine au 13 ?_
  refine aa rfl (am kN rfl (aH h.cr)) ?_
  refine ae rfl (aM Tryz.call95 rfl (CR W0 _ rb rl pc hl)) ?_
  rintro _ B_ ⟨rfl, hB_⟩
  obtain rfl := hB_.symm
  refine au 9 ?_
  refine aa rfl (am kN rfl (aH h.cr)) ?_
  refine aa rfl (ag rfl) ?_
  refine aa rfl (g5 FC gH rfl (jx (by omega))) ?_
  refine ae rfl (aM yy rfl (rY W0 _ rb rl pc 1 e hl (by decide) (by decide))) ?_
  rintro _ B_ ⟨rfl, hB_⟩
  obtain rfl := hB_.symm
  refine au 8 ?_
  refine aa rfl (am kN rfl (aH h.cr)) ?_
  refine aa rfl (ag rfl) ?_
  refine ae rfl (aM yy rfl (rY W0 _ rb (rl.set 1 e) pc 2 w (by simp [hl]) (by decide) (by decide))) ?_
  rintro _ B_ ⟨rfl, hB_⟩
  obtain rfl := hB_.symm
  refine au 8 ?_
  refine aa rfl (am kN rfl (aH h.cr)) ?_
  refine aa rfl (ag rfl) ?_
  refine aa rfl (bj rfl rfl (by rw [jx (by omega)]; omega : IntKind.wrap .u32 ((pc : Int) + 4) = ((pc + 4 : Nat) : Int))) ?_
  refine ae rfl (aM Tryz.call96 rfl (CS W0 _ rb (cW rl e w) pc (pc + 4) hl2)) ?_
  rintro _ B_ ⟨rfl, hB_⟩
  obtain rfl := hB_.symm
  refine au 7 ?_
  refine aa rfl (g5 FC gH rfl (jx (by omega))) ?_
  refine aa rfl (ag rfl) (ae rfl (jX Tryz.call97 rfl (Ed W0 _ gb (cW rl e w) (pc + 4) es 2 (rl.getD 1 0) e pc h hl2 hn)) ?_)
  rintro _ B_ ⟨rfl, hB_⟩
  obtain rfl := hB_.symm
  refine au 8 ?_
  refine ah (.inl rfl) (.cons (ac rfl) .nil) ?_
  exact ⟨_, ⟨rfl, rfl⟩, inferInstance⟩
theorem xi {l : List Nat} (h : l.length = 16) : ∃ a0 a1 a2 a3 a4 a5 a6 a7 a8 a9 a10 a11 a12 a13 a14 a15, l = [a0, a1, a2, a3, a4, a5, a6, a7, a8, a9, a10, a11, a12, a13, a14, a15] := by
 match l, h with
 | [a0, a1, a2, a3, a4, a5, a6, a7, a8, a9, a10, a11, a12, a13, a14, a15], _ => exact ⟨a0, a1, a2, a3, a4, a5, a6, a7, a8, a9, a10, a11, a12, a13, a14, a15, rfl⟩
theorem xj (W0 : World) (R : List HP) (gb : Nat) (rl : List Nat) (pc : Nat) (h : GC rb vb pv tr cs) (hl : rl.length = 16) : ao Tryz.prog W0 33 [pV gb] (pt gb (bE cs) :: pt rb (bD rl pc) :: R)
  (fun v B => v = .tuple #[wV (rl.getD 1 0), .agg #[wV (rl.getD 2 0), wV (rl.getD 3 0), wV (rl.getD 4 0), wV (rl.getD 5 0)]] ∧ B = pt gb (bE cs) :: pt rb (bD rl pc) :: R) := by
 obtain ⟨a0, a1, a2, a3, a4, a5, a6, a7, a8, a9, a10, a11, a12, a13, a14, a15, rfl⟩ := xi hl
 refine aD Tryz.func33 Tryz.ntmps33 rfl rfl ?_
 refine au 3 ?_
 refine ae rfl (cd lV) ?_
 rintro _ _ ⟨b1, rfl, rfl⟩
 refine au 5 ?_
 refine ae rfl (eE yz rfl (sq W0 _ gb [a0, a1, a2, a3, a4, a5, a6, a7, a8, a9, a10, a11, a12, a13, a14, a15] pc h hl)) ?_
 rintro _ B_ ⟨rfl, hB_⟩
 obtain rfl := hB_.symm
 refine ae rfl (cd yk) ?_
 rintro _ _ ⟨br, rfl, rfl⟩
 refine b0 (bS j9 rfl rfl rfl rfl rfl) ?_
 rintro _ _ rfl
 refine au 3 ?_
 refine bR [(br, 0, _)] 7 bQ rfl (aC aB) (fun hS => ?_)
 refine ab 0 rfl rfl rfl hS (dv nr cg rfl rfl (i := 1) rfl (by decide) (by first | exact Nat.zero_add _ | rfl)) ?_
 refine ab 1 rfl rfl rfl hS (am eS rfl (av (k := 0) rfl rfl)) ?_
 refine ab 2 rfl rfl rfl hS (Bo (i := 2) (h := 6) (o' := 2) nr cg rfl rfl rfl rfl rfl (by decide) (by decide) (by decide) rfl) ?_
 refine ab 3 rfl rfl rfl hS (Bp hJ rfl (by decide)) ?_
 refine ab 4 rfl rfl rfl hS (cj jN eh rfl (Bq (n := 4) (j := 2) (cT (k := 0) rfl) rfl) rfl) ?_
 refine ab 5 rfl rfl rfl hS (ax rfl) ?_
 refine aW 6 (by kernel_rfl) rfl rfl (bS eh rfl rfl rfl rfl rfl) rfl ?_; clear hS
 rintro _ _ rfl
 refine ⟨(aC aB), fun hS => ?_⟩
 refine bz (by kernel_rfl) ?_; clear hS
 refine au 2 ?_
 refine ah (.inl rfl) (.cons (ac rfl) (.cons (fh jN eh rfl rfl) .nil)) ?_
 exact ⟨_, ⟨rfl, rfl⟩, inferInstance⟩
@[reducible] def j5 (gb i n : Nat) (x : List Value) (hb : Nat) (lv : Value) : List Value := [pV gb, .int .i64 i, wV n] ++ x ++ [.int .i64 0, pV hb, lv]
theorem Ee (W0 : World) (R : List HP) (cb gb i hb : Nat) (a b c d : Nat) (lv : Value) : ao Tryz.prog W0 34 [pV cb] (pt cb (aj (j5 gb i 0 [wV a, wV b, wV c, wV d] hb lv) 111) :: R)
  (fun v B => v = .func (.func 217) #[pV cb] #[] ∧ B = pt cb (aj (j5 gb i 0 [wV a, wV b, wV c, wV d] hb lv) 111) :: R) := by
 have own : ∀ R, ao Tryz.prog W0 93 [pV cb] (pt cb (aj (j5 gb i 0 [wV a, wV b, wV c, wV d] hb lv) 111) :: R)
  (fun v B => v = .func (.func 217) #[pV cb] #[] ∧ B = pt cb (aj (j5 gb i 0 [wV a, wV b, wV c, wV d] hb lv) 111) :: R) := fun R => by
  refine d5 Tryz.func93 Tryz.ntmps93 rfl rfl ?_
  refine al (az (aa rfl (ax rfl) (aw (ak (al (al (az (aa rfl (ag rfl) (aa rfl (aU rfl) ?_)))))))))
  refine aa rfl (ap rfl dj rfl eb rfl (by first | exact Nat.zero_add _ | rfl)) ?_
  refine aa rfl (ap rfl eB rfl cg rfl (by first | exact Nat.zero_add _ | rfl)) ?_
  refine aa rfl (am eS rfl (aH rfl)) ?_
  refine aw (ak (dt (al (az (aa rfl (dd rfl rfl) (aa rfl (ax rfl) (aw (ak ?_))))))))
  refine ai rfl ?_ ?_
  ·intro c2
   refine al (az (aa rfl (ag rfl) (aa rfl (i7 rfl rfl) ?_)))
   refine aa rfl (ax rfl) (aw (ak (bY (dO (cn (ah (.inl rfl) (.cons (ac rfl) .nil) ?_))))))
   exact ⟨_, ⟨rfl, rfl⟩, inferInstance⟩
  ·intro c2
   exact absurd rfl c2
 refine d5 tw Tryz.ntmps34 rfl rfl ?_
 refine al (az (aa rfl (ax rfl) (aw (ak (al (al (az (aa rfl (ag rfl) (aa rfl (aU rfl) ?_)))))))))
 refine aa rfl (ap rfl dj rfl eb rfl (by first | exact Nat.zero_add _ | rfl)) ?_
 refine aa rfl (ap rfl eB rfl cg rfl (by first | exact Nat.zero_add _ | rfl)) ?_
 refine aa rfl (am eS rfl (aH rfl)) ?_
 refine aw (ak (dt (al (az (aa rfl (dd rfl rfl) (aa rfl (ax rfl) (aw (ak ?_))))))))
 refine ai rfl ?_ ?_
 ·intro c2
  exact absurd c2 (by decide)
 ·intro c2
  refine al (az (aa rfl (dd rfl rfl) (aa rfl (ax rfl) (aw (ak ?_)))))
  refine ai rfl ?_ ?_
  ·intro c4
   exact absurd c4 (by decide)
  ·intro c4
   refine al (az (aa rfl (dd rfl rfl) (aa rfl (ax rfl) (aw (ak ?_)))))
   refine ai rfl ?_ ?_
   ·intro c6
    exact absurd c6 (by decide)
   ·intro c6
    refine al (az (aa rfl (dd rfl rfl) (aa rfl (ax rfl) (aw (ak ?_)))))
    refine ai rfl ?_ ?_
    ·intro c8
     exact absurd c8 (by decide)
    ·intro c8
     refine al (az (aa rfl (dd rfl rfl) (aa rfl (ax rfl) (aw (ak ?_)))))
     refine ai rfl ?_ ?_
     ·intro c10
      exact absurd c10 (by decide)
     ·intro c10
      refine cy (fY (ak (al (az (aa rfl (ag rfl) (ae rfl (aM Tryz.call93 rfl (own _)) ?_))))))
      rintro _ B_ ⟨rfl, hB_⟩
      obtain rfl := hB_.symm
      refine aa rfl (ax rfl) (aw (ak (bY (ah (.inl rfl) (.cons (ac rfl) .nil) ?_))))
      exact ⟨_, ⟨rfl, rfl⟩, inferInstance⟩
theorem Ef (W0 : World) (R : List HP) (cb gb i hb : Nat) (a b c d : Nat) (lv : Value) (hi : i < 100) : ao Tryz.prog W0 217 ([pV cb] ++ [] ++ []) (pt cb (aj (j5 gb i 0 [wV a, wV b, wV c, wV d] hb lv) 111) :: R)
  (fun v B => v = .tuple #[.int .i64 0, wV i] ∧ B = pt cb (aj (j5 gb i 0 [wV a, wV b, wV c, wV d] hb lv) 111) :: R) := by
 simp only [List.append_nil]
 refine aD Tryz.func217 Tryz.ntmps217 rfl rfl ?_
 refine au 7 ?_
 refine bR [(cb, 0, _)] 8 bQ rfl (aC aB) (fun hS => ?_)
 refine ab 0 rfl rfl rfl hS (ag rfl) ?_
 refine ab 1 rfl rfl rfl hS (aU rfl) ?_
 refine ab 2 rfl rfl rfl hS (ap rfl dj rfl eb rfl (by first | exact Nat.zero_add _ | rfl)) ?_
 refine ab 3 rfl rfl rfl hS (ap rfl eB rfl ar rfl (by first | exact Nat.zero_add _ | rfl)) ?_
 refine ab 4 rfl rfl rfl hS (am aT rfl (av (k := 0) rfl rfl)) ?_
 refine ab 5 rfl rfl rfl hS (g5 dN gH rfl (jx (by omega))) ?_
 refine ab 6 rfl rfl rfl hS (ax rfl) ?_
 refine ab 7 rfl rfl rfl hS (ax rfl) ?_
 refine bz (by kernel_rfl) ?_; clear hS
 refine au 2 ?_
 refine ah (.inl rfl) (.cons (ac rfl) (.cons (ac rfl) .nil)) ?_
 exact ⟨_, ⟨rfl, rfl⟩, inferInstance⟩
theorem xk (W0 : World) (R : List HP) (cb gb i hb n : Nat) (a b c d : Nat) (lv : Value) (h2 : n ≠ 2) (h3 : n ≠ 3) : ao Tryz.prog W0 36 [pV cb] (pt cb (aj (j5 gb i n [wV a, wV b, wV c, wV d] hb lv) 111) :: R)
  (fun v B => v = .tuple #[] ∧ B = pt cb (aj (j5 gb i n [wV a, wV b, wV c, wV d] hb lv) 111) :: R) := by
 refine d5 Tryz.func36 Tryz.ntmps36 rfl rfl ?_
 refine al (az (aa rfl (ag rfl) (aa rfl (aU rfl) ?_)))
 refine aa rfl (ap rfl dj rfl eb rfl (by first | exact Nat.zero_add _ | rfl)) ?_
 refine aa rfl (ap rfl eB rfl cg rfl (by first | exact Nat.zero_add _ | rfl)) ?_
 refine aa rfl (am eS rfl (aH rfl)) ?_
 refine aw (ak (dt (al (az (aa rfl (dd rfl rfl) (aa rfl (ax rfl) (aw (ak ?_))))))))
 refine ai rfl ?_ ?_
 ·intro c1
  omega
 ·intro c1
  refine al (az (aa rfl (dd rfl rfl) (aa rfl (ax rfl) (aw (ak ?_)))))
  refine ai rfl ?_ ?_
  ·intro c3
   omega
  ·intro c3
   refine cy (fY (ah (.inr rfl) .nil ?_))
   exact ⟨_, ⟨rfl, rfl⟩, inferInstance⟩
end
@[reducible] def Eg (w : Bool) (s : Int) : List Value := [.bool w, .bool false, .int .i64 0, .int .i64 s]
@[reducible] def Eh (w : Bool) (s n : Int) (row : Value) : List Value := [.bool false, .bool false, .int .i64 0, .int .i64 0, .bool false, .bool false, .int .i64 0, .int .i64 0, .bool false, .bool false, .int .i64 0, .int .i64 0, .bool false, .bool false, .int .i64 0, .int .i64 0, .bool w, .bool false, .int .i64 0, .int .i64 s, .bool false, .bool false, .int .i64 0, .int .i64 0, .bool false, .bool false, .int .i64 0, .int .i64 0, .bool false, .bool false, .int .i64 0, .int .i64 0, row, .int .i64 n, .bool true]
abbrev fz (w : Bool) (s n : Int) (row : Value) : Obj := aj (Eh w s n row) 443
theorem Ei : ib = fz false 0 0 cZ := rfl
theorem Ej (W0 : World) (R : List HP) (vb : Nat) (w : Bool) (s n : Int) (row : Value) : ao Tryz.prog W0 354 [pV vb] (pt vb (fz w s n row) :: R) (fun v B => v = .bool false ∧ B = pt vb (fz w s n row) :: R) := by
 refine aD Tryz.func354 Tryz.ntmps354 rfl rfl ?_
 refine au 10 ?_
 refine aZ rfl rfl rfl ?_ ?_
 ·intro g1_3
  cases g1_3
 ·intro g1_3
  refine au 14 ?_
  refine ah (.inl rfl) (.cons (ac rfl) .nil) ?_
  exact ⟨_, ⟨rfl, rfl⟩, inferInstance⟩
theorem Ek (W0 : World) (R : List HP) (vb : Nat) (w : Bool) (s n : Int) (row : Value) : ao Tryz.prog W0 299 [pV vb, .int .i64 4] (pt vb (fz w s n row) :: R) (fun v B => v = .int .i64 0 ∧ B = pt vb (fz w s n row) :: R) := by
 refine aD Tryz.func299 Tryz.ntmps299 rfl rfl ?_
 refine au 10 ?_
 refine ae rfl (aM Tryz.call354 rfl (Ej W0 _ vb w s n row)) ?_
 rintro _ B_ ⟨rfl, hB_⟩
 obtain rfl := hB_.symm
 refine au 3 ?_
 refine ai rfl ?_ ?_
 ·intro c1
  exact absurd c1 (by decide)
 ·intro c1
  refine au 8 ?_
  refine ai rfl ?_ ?_
  ·intro c3
   exact absurd c3 (by decide)
  ·intro c3
   refine au 6 ?_
   refine ai rfl ?_ ?_
   ·intro c4
    exact absurd c4 (by decide)
   ·intro c4
    refine au 9 ?_
    refine ah (.inl rfl) (.cons (ac rfl) .nil) ?_
    exact ⟨_, ⟨rfl, rfl⟩, inferInstance⟩
theorem El (W0 : World) (R : List HP) (vb : Nat) (w : Bool) (s n : Int) : ao Tryz.prog W0 355 [pV vb, .int .i64 4] (pt vb (fz w s n cZ) :: R) (fun v B => v = .tuple #[] ∧ B = pt vb (fz w s n cZ) :: R) := by
 refine d5 Tryz.func355 Tryz.ntmps355 rfl rfl ?_
 refine al (az (aa rfl (ag rfl) (aa rfl (aU rfl) ?_)))
 refine aa rfl (ap rfl lN rfl yo rfl (by first | exact Nat.zero_add _ | rfl)) ?_
 refine aa rfl (ap rfl pA rfl lK rfl (by first | exact Nat.zero_add _ | rfl)) ?_
 refine aa rfl (am sF rfl (aH rfl)) ?_
 refine aa rfl (dU mZ rfl) (aa rfl (ag rfl) (aw (ak (dt ?_))))
 refine ce (fun i : Nat => i = 0) (fun i => [(0, pV vb), (1, .int .i64 4), (10, cZ), (11, .int .i64 0), (12, .int .i64 i)]) (fun _ => pt vb (fz w s n cZ) :: R) (fun _ => 0) 0 ?_ ?_ ?_ ?_
 ·rfl
 ·repeat (first | exact aJ | refine aG rfl ?_)
 ·exact inferInstance
 ·intro i hi
  subst hi
  refine al (az (aa rfl (eO rfl rfl) (aw (ak (al ?_)))))
  refine ai rfl ?_ ?_
  ·intro c1
   exact absurd c1 (by decide)
  ·intro c1
   refine gJ (eV (eV (i3 (ah (.inr rfl) .nil ?_))))
   exact ⟨_, ⟨rfl, rfl⟩, inferInstance⟩
abbrev sr (vb : Nat) : Value := .pointer (some ⟨vb, 32, none⟩)
abbrev xl : Value := .agg #[.int .i64 4, .int .i64 0, .int .i64 1]
theorem Em (W0 : World) (R : List HP) (vb : Nat) : ao Tryz.prog W0 495 [sr vb, .iface 529 xl] (pt vb (fz true 1 1 cZ) :: R)
  (fun v B => v = .tuple #[] ∧ ∃ a c, B = pt vb (fz true 1 1 (.slice a 1 c)) :: R) := by
 refine iX (B := osl 529 3 (.slice none 0 0) [] :: pt vb (fz true 1 1 cZ) :: R) fj ?_
 refine aD Tryz.func495 Tryz.ntmps495 rfl rfl ?_
 refine bR [] 12 bQ rfl aB (fun hS => ?_)
 refine ab 0 rfl rfl rfl hS (ag rfl) ?_
 refine ab 1 rfl rfl rfl hS (ag rfl) ?_
 refine ab 2 rfl rfl rfl hS (aU rfl) ?_
 refine ab 3 rfl rfl rfl hS (ap rfl pA rfl lK rfl (by first | exact Nat.zero_add _ | rfl)) ?_
 refine ab 5 rfl rfl rfl hS (ag rfl) ?_
 refine ab 6 rfl rfl rfl hS (nS yA (fun _ h => nomatch h) rfl) ?_
 refine i6 (is := [4, 7]) (by kernel_rfl) rfl ⟨?_, ?_, trivial⟩
 ·skip
  refine ed rfl rfl (ec (am sF rfl (aH rfl))) rfl ?_; clear hS
  rintro _ _ ⟨rfl, rfl⟩
  refine ⟨aB, fun hS => ?_⟩
  refine aW 7 (by kernel_rfl) rfl rfl (fF mZ Tryz.sizeOf529 yB rfl (eo rfl rfl fD) rfl (by decide) (by decide) (by decide)) rfl ?_; clear hS
  rintro _ _ ⟨b1, rfl, rfl⟩
  refine ⟨aB, fun hS => ?_⟩
  refine aW 8 (by kernel_rfl) rfl rfl (dy (sz := 3) (by_ := 24) (info := Tryz.t529) mZ (by kernel_rfl) rfl rfl rfl rfl (by decide) rfl rfl dz rfl rfl (by simp [maxLen]) (by decide)) rfl ?_; clear hS
  rintro _ _ ⟨a3, c3, rfl, rfl⟩
  refine ⟨aB, fun hS => ?_⟩
  refine ab 9 rfl rfl rfl hS (aU rfl) ?_
  refine ab 10 rfl rfl rfl hS (ap rfl pA rfl lK rfl (by first | exact Nat.zero_add _ | rfl)) ?_
  refine aW 11 (by kernel_rfl) rfl rfl (bN lK rfl rfl rfl (Nat.le_of_ble_eq_true rfl) SetL.eq) rfl ?_; clear hS
  rintro _ _ rfl
  refine ⟨aB, fun hS => ?_⟩
  refine bz (by kernel_rfl) ?_; clear hS
  refine ah (.inr rfl) .nil ?_
  exact ⟨_, ⟨rfl, a3, c3, rfl⟩, inferInstance⟩
 ·skip
  refine ed rfl rfl (fF mZ Tryz.sizeOf529 yB rfl (eo rfl rfl fD) rfl (by decide) (by decide) (by decide)) rfl ?_; clear hS
  rintro _ _ ⟨b1, rfl, rfl⟩
  refine ⟨aB, fun hS => ?_⟩
  refine aW 4 (by kernel_rfl) rfl rfl (ec (am sF rfl (aH rfl))) rfl ?_; clear hS
  rintro _ _ ⟨rfl, rfl⟩
  refine ⟨aB, fun hS => ?_⟩
  refine aW 8 (by kernel_rfl) rfl rfl (dy (sz := 3) (by_ := 24) (info := Tryz.t529) mZ (by kernel_rfl) rfl rfl rfl rfl (by decide) rfl rfl dz rfl rfl (by simp [maxLen]) (by decide)) rfl ?_; clear hS
  rintro _ _ ⟨a3, c3, rfl, rfl⟩
  refine ⟨aB, fun hS => ?_⟩
  refine ab 9 rfl rfl rfl hS (aU rfl) ?_
  refine ab 10 rfl rfl rfl hS (ap rfl pA rfl lK rfl (by first | exact Nat.zero_add _ | rfl)) ?_
  refine aW 11 (by kernel_rfl) rfl rfl (bN lK rfl rfl rfl (Nat.le_of_ble_eq_true rfl) SetL.eq) rfl ?_; clear hS
  rintro _ _ rfl
  refine ⟨aB, fun hS => ?_⟩
  refine bz (by kernel_rfl) ?_; clear hS
  refine ah (.inr rfl) .nil ?_
  exact ⟨_, ⟨rfl, a3, c3, rfl⟩, inferInstance⟩
theorem En (W0 : World) (R : List HP) (vb : Nat) (a : Option Addr) (c : Nat) : ao Tryz.prog W0 492 [sr vb] (pt vb (fz true 1 1 (.slice a 1 c)) :: R) (fun v B => v = .int .i64 1 ∧ B = pt vb (fz true 1 1 (.slice a 1 c)) :: R) := by
 refine aD Tryz.func492 Tryz.ntmps492 rfl rfl ?_
 refine au 16 ?_
 refine ah (.inl rfl) (.cons (ac rfl) .nil) ?_
 exact ⟨_, ⟨rfl, rfl⟩, inferInstance⟩
theorem Eo (w : World) (a : Addr) : (method (Tryz.prog.types.size + Made.depth) 527 (.pointer (some a)) "Len").run Tryz.prog w = .ok (492, .pointer (some a)) w := by kernel_rfl
theorem Ep (w : World) (a : Addr) : (method (Tryz.prog.types.size + Made.depth) 527 (.pointer (some a)) "Push").run Tryz.prog w = .ok (495, .pointer (some a)) w := by kernel_rfl
theorem Er (W0 : World) (R : List HP) (v : Value) : ao Tryz.prog W0 269 [v, .int .i64 0] R (fun v B => v = .tuple #[] ∧ B = R) := by
 refine aD xT Tryz.ntmps269 rfl rfl ?_
 refine dt ?_
 refine ce (fun i : Nat => i = 0) (fun i => [(0, v), (1, .int .i64 i)]) (fun _ => R) (fun _ => 0) 0 ?_ ?_ ?_ ?_
 ·rfl
 ·repeat (first | exact aJ | refine aG rfl ?_)
 ·exact inferInstance
 ·intro i hi
  subst hi
  refine au 4 ?_
  refine aa rfl (dG rfl rfl (by first | exact aK (by omega) | rfl)) ?_
  refine aa rfl (pT rfl rfl (by decide) (by decide : IntKind.wrap .i64 (Int.tdiv (((0 : Nat) : Int) - 1) 2) = 0)) ?_
  refine au 10 ?_
  refine aZ rfl rfl rfl ?_ ?_
  ·intro g1_4
   refine au 13 ?_
   refine ah (.inr rfl) .nil ?_
   exact ⟨_, ⟨rfl, rfl⟩, inferInstance⟩
  ·intro g1_4
   exact absurd rfl g1_4
theorem Es (W0 : World) (R : List HP) (vb : Nat) : ao Tryz.prog W0 152 [.iface 527 (sr vb), .iface 529 xl] (pt vb (fz true 1 1 cZ) :: R)
  (fun v B => v = .tuple #[] ∧ ∃ a c, B = pt vb (fz true 1 1 (.slice a 1 c)) :: R) := by
 refine aD xU Tryz.ntmps152 rfl rfl ?_
 refine au 4 ?_
 refine ae rfl (eX rfl (fun w => Ep w _) Tryz.call495 rfl (Em W0 _ vb)) ?_
 rintro _ _ ⟨rfl, a3, c3, rfl⟩
 refine au 5 ?_
 refine ae rfl (eX rfl (fun w => Eo w _) Tryz.call492 rfl (En W0 _ vb a3 c3)) ?_
 rintro _ B_ ⟨rfl, hB_⟩
 obtain rfl := hB_.symm
 refine aa rfl (dG rfl rfl (by decide : IntKind.wrap .i64 (1 - 1) = 0)) ?_
 refine ae rfl (aF xV rfl (Er W0 _ _)) ?_
 rintro _ B_ ⟨rfl, hB_⟩
 obtain rfl := hB_.symm
 refine aw (ah (.inr rfl) .nil ?_)
 exact ⟨_, ⟨rfl, a3, c3, rfl⟩, inferInstance⟩
theorem Et (W0 : World) (R : List HP) (vb : Nat) : ao Tryz.prog W0 300 [pV vb, .int .i64 4] (pt vb (fz true 1 1 cZ) :: R)
  (fun v B => v = .tuple #[] ∧ ∃ a c, B = pt vb (fz true 1 1 (.slice a 1 c)) :: R) := by
 refine aD Tryz.func300 Tryz.ntmps300 rfl rfl ?_
 refine au 4 ?_
 refine ae rfl (aM Tryz.call355 rfl (El W0 _ vb true 1 1)) ?_
 rintro _ B_ ⟨rfl, hB_⟩
 obtain rfl := hB_.symm
 refine au 8 ?_
 refine aa rfl (dv tx nw rfl rfl (i := 4) rfl (by decide) (by first | exact Nat.zero_add _ | rfl)) ?_
 refine aa rfl (cj Tryz.isAgg437 nw rfl (fp (b := vb) (off := 16) (vs := Eg true 1) rfl rfl) rfl) ?_
 refine ae rfl (cd Tryz.zeroValue437) ?_
 rintro _ _ ⟨bl, rfl, rfl⟩
 refine b0 (bS nw rfl rfl rfl rfl rfl) ?_
 rintro _ _ rfl
 refine au 7 ?_
 refine bX rfl rfl rfl ?_ ?_
 ·intro g2_3
  refine au 8 ?_
  refine ai rfl ?_ ?_
  ·intro c2
   refine bR [(bl, 0, _)] 12 bQ rfl (aC aB) (fun hS => ?_)
   refine ab 0 rfl rfl rfl hS (ag rfl) ?_
   refine ab 1 rfl rfl rfl hS (aU rfl) ?_
   refine ab 2 rfl rfl rfl hS (ap rfl lN rfl yo rfl (by first | exact Nat.zero_add _ | rfl)) ?_
   refine ab 3 rfl rfl rfl hS (ka Tryz.underlying527 (fun _ h => nomatch h) rfl) ?_
   refine ab 4 rfl rfl rfl hS (ag rfl) ?_
   refine ab 5 rfl rfl rfl hS (ap rfl pz rfl ar rfl (by first | exact Nat.zero_add _ | rfl)) ?_
   refine ab 6 rfl rfl rfl hS (am aT rfl (av (k := 0) rfl rfl)) ?_
   refine ab 7 rfl rfl rfl hS (ap rfl pz rfl ar rfl (by first | exact Nat.zero_add _ | rfl)) ?_
   refine ab 8 rfl rfl rfl hS (am aT rfl (av (k := 0) rfl rfl)) ?_
   refine ab 9 rfl rfl rfl hS (bI yA yB (aA ar (aA ar (aA ar bH))) (aS rfl ar rfl rfl (Nat.le_of_ble_eq_true rfl) SetL.eq (aS rfl ar rfl rfl (Nat.le_of_ble_eq_true rfl) SetL.eq (aS rfl ar rfl rfl (Nat.le_of_ble_eq_true rfl) SetL.eq bG)))) ?_
   refine ab 10 rfl rfl rfl hS (ka yA (fun _ h => nomatch h) rfl) ?_
   refine aW 11 (by kernel_rfl) rfl rfl (aM Tryz.call152 rfl (Es W0 _ vb)) rfl ?_; clear hS
   rintro _ _ ⟨rfl, a3, c3, rfl⟩
   refine ⟨(aC aB), fun hS => ?_⟩
   refine bz (by kernel_rfl) ?_; clear hS
   refine ah (.inr rfl) .nil ?_
   exact ⟨_, ⟨rfl, a3, c3, rfl⟩, inferInstance⟩
  ·intro c2
   exact absurd c2 (by decide)
 ·intro g2_3
  exact absurd rfl g2_3
theorem Eu (W0 : World) (R : List HP) (vb : Nat) : ao Tryz.prog W0 206 [pV vb, .int .i64 4] (pt vb ib :: R)
  (fun v B => v = .int .i64 0 ∧ ∃ a c, B = pt vb (fz true 1 1 (.slice a 1 c)) :: R) := by
 rw [Ei]
 refine aD Tryz.func206 Tryz.ntmps206 rfl rfl ?_
 refine au 10 ?_
 refine ae rfl (aM Tryz.call299 rfl (Ek W0 _ vb false 0 0 cZ)) ?_
 rintro _ B_ ⟨rfl, hB_⟩
 obtain rfl := hB_.symm
 refine au 9 ?_
 refine ai rfl ?_ ?_
 ·intro c2
  exact absurd rfl c2
 ·intro c2
  refine au 9 ?_
  refine aa rfl (dv tx nw rfl rfl (i := 4) rfl (by decide) (by first | exact Nat.zero_add _ | rfl)) ?_
  refine au 5 ?_
  refine ai rfl ?_ ?_
  ·intro c4
   refine au 6 ?_
   refine aa rfl (bj rfl rfl (by decide : IntKind.wrap .i64 (0 + 1) = 1)) ?_
   refine au 2 ?_
   refine b0 (bN ar rfl rfl rfl (Nat.le_of_ble_eq_true rfl) SetL.eq) ?_
   rintro _ _ rfl
   refine au 3 ?_
   refine bR [(vb, 33, [.int .i64 1])] 18 bQ rfl (cm (ju (b := vb) (off := 33) rfl) aB) (fun hS => ?_)
   refine ab 0 rfl rfl rfl hS (ag rfl) ?_
   refine ab 1 rfl rfl rfl hS (ag rfl) ?_
   refine ab 2 rfl rfl rfl hS (ag rfl) ?_
   refine ab 3 rfl rfl rfl hS (ag rfl) ?_
   refine ab 4 rfl rfl rfl hS (ag rfl) ?_
   refine ab 5 rfl rfl rfl hS (aU rfl) ?_
   refine ab 6 rfl rfl rfl hS (ap rfl lN rfl ar rfl (by first | exact Nat.zero_add _ | rfl)) ?_
   refine ab 7 rfl rfl rfl hS (am aT rfl (m7 (k := 0) rfl)) ?_
   refine ab 8 rfl rfl rfl hS (aU rfl) ?_
   refine ab 9 rfl rfl rfl hS (ap rfl lN rfl sK rfl (by first | exact Nat.zero_add _ | rfl)) ?_
   refine ab 10 rfl rfl rfl hS (dv tx nw rfl rfl (i := 4) rfl (by decide) (by first | exact Nat.zero_add _ | rfl)) ?_
   refine ab 11 rfl rfl rfl hS (ap rfl pz rfl cu rfl (by first | exact Nat.zero_add _ | rfl)) ?_
   refine ab 13 rfl rfl rfl hS (aU rfl) ?_
   refine ab 14 rfl rfl rfl hS (ap rfl lN rfl sK rfl (by first | exact Nat.zero_add _ | rfl)) ?_
   refine aW 12 (by kernel_rfl) rfl rfl (bN cu rfl rfl rfl (Nat.le_of_ble_eq_true rfl) SetL.eq) rfl ?_; clear hS
   rintro _ _ rfl
   refine ⟨(cm (ju (b := vb) (off := 33) rfl) aB), fun hS => ?_⟩
   refine ab 15 rfl rfl rfl hS (dv tx nw rfl rfl (i := 4) rfl (by decide) (by first | exact Nat.zero_add _ | rfl)) ?_
   refine ab 16 rfl rfl rfl hS (ap rfl pz rfl ar rfl (by first | exact Nat.zero_add _ | rfl)) ?_
   refine aW 17 (by kernel_rfl) rfl rfl (bN ar rfl rfl rfl (Nat.le_of_ble_eq_true rfl) SetL.eq) rfl ?_; clear hS
   rintro _ _ rfl
   refine ⟨(cm (ju (b := vb) (off := 33) rfl) aB), fun hS => ?_⟩
   refine bz (by kernel_rfl) ?_; clear hS
   refine au 4 ?_
   refine ae rfl (aM Tryz.call300 rfl (Et W0 _ vb)) ?_
   rintro _ _ ⟨rfl, a3, c3, rfl⟩
   refine au 8 ?_
   refine ah (.inl rfl) (.cons (ac rfl) .nil) ?_
   exact ⟨_, ⟨rfl, a3, c3, rfl⟩, inferInstance⟩
  ·intro c4
   exact absurd c4 (by decide)
theorem su {n f : Nat} (h : f < n) : d7 n f = true := by simp only [d7, decide_eq_true_eq]; omega
theorem Ev {fr : List bJ} {f : Nat} (hF : dJ fr) (hf : f < fr.length) (off : Nat) (ho : off + 4 ≤ 64) : l7 fr f off 4 = 0 := by
 rw [l7, if_pos (su hf), kY, if_pos]
 rw [dR]
 have := (hF.get hf).1
 rw [show ((f : Int).toNat) = f by omega, this]
 omega
theorem Ew (h : Nat) : IntKind.wrap .u32 ((h : Int) + 1) = (((h + 1) % 4294967296 : Nat) : Int) := by rw [show (h : Int) + 1 = ((h + 1 : Nat) : Int) by omega]; exact A6 _
theorem xm (W0 : World) (R : List HP) (ps : Nat) (fr : List bJ) (f : Nat) (hF : dJ fr) (hf : f < fr.length) :
  ao Tryz.prog W0 301 [.pointer (some ⟨ps, 0, none⟩), .int .i64 f] (bn ps fr :: R) (fun v B => v = .tuple #[.int .u32 (jg fr f 0 4 : Nat), .int .i64 0] ∧ B = bn ps fr :: R) := by
 have h0 : l7 fr f 0 4 = 0 := Ev hF hf 0 (by decide)
 refine aD Tryz.func301 Tryz.ntmps301 rfl rfl ?_
 refine au 10 ?_
 refine ae rfl (aM Tryz.call304 rfl (zC W0 _ ps fr f 0 4 hF)) ?_
 rintro _ B_ ⟨rfl, hB_⟩
 obtain rfl := hB_.symm
 rw [h0]
 refine au 7 ?_
 refine ah (.inl rfl) (.cons (ac rfl) (.cons (ac rfl) .nil)) ?_
 exact ⟨_, ⟨rfl, rfl⟩, inferInstance⟩
theorem Ey (W0 : World) (R : List HP) (i : Nat) : ao Tryz.prog W0 302 [wV i] R (fun v B => v = .int .i64 ((4 + 4 * (i % 8) : Nat) : Int) ∧ B = R) := by
 refine aD Tryz.func302 Tryz.ntmps302 rfl rfl ?_
 refine au 8 ?_
 refine aa rfl (pU rfl rfl (by decide) (by rw [show (8 : Int) = ((8 : Nat) : Int) from rfl, Int.tmod_eq_emod_of_nonneg (by omega), ← Int.natCast_emod] : Int.tmod (i : Int) 8 = ((i % 8 : Nat) : Int))) ?_
 refine aa rfl (g5 gH dN rfl (aK (by omega))) ?_
 refine aa rfl (i4 rfl rfl (aK (by omega))) ?_
 refine aa rfl (bj rfl rfl (by rw [aK (by omega)]; omega : IntKind.wrap .i64 (4 + 4 * ((i % 8 : Nat) : Int)) = ((4 + 4 * (i % 8) : Nat) : Int))) ?_
 refine au 4 ?_
 refine ah (.inl rfl) (.cons (ac rfl) .nil) ?_
 exact ⟨_, ⟨rfl, rfl⟩, inferInstance⟩
theorem xn {W0 : World} {R : List HP} {ps : Nat} {fr : List bJ} {f off x : Nat} (hF : dJ fr) (hf : f < fr.length) (ho : off + 4 ≤ 64) (hx : x < 4294967296) :
  ao Tryz.prog W0 22 ([.pointer (some ⟨ps, 0, none⟩)] ++ [.int .i64 f, .int .i64 off, .int .i64 4, wV x] ++ []) (bn ps fr :: R)
   (fun v B => v = .int .i64 0 ∧ B = bn ps (eG fr f off 4 x) :: R) := by
 have h1 : fH fr f off 4 = true := by
  simp only [fH, Bool.and_eq_true]
  exact ⟨su hf, by rw [dR]; omega⟩
 have := uA W0 R ps fr f off 4 x hx hF
 rw [h1] at this
 exact this
theorem Ez (W0 : World) (R : List HP) (ps : Nat) (fr : List bJ) (f w : Nat) (hF : dJ fr) (hf : f < fr.length) (hw : w < 4294967296) :
  ao Tryz.prog W0 208 [.pointer (some ⟨ps, 0, none⟩), .int .i64 f, wV w] (bn ps fr :: R) (fun v B => v = .int .i64 0 ∧ ∃ fr', B = bn ps fr' :: R) := by
 refine aD Tryz.func208 Tryz.ntmps208 rfl rfl ?_
 refine au 9 ?_
 refine ae rfl (aM Tryz.call301 rfl (xm W0 _ ps fr f hF hf)) ?_
 rintro _ B_ ⟨rfl, hB_⟩
 obtain rfl := hB_.symm
 refine au 14 ?_
 refine ai rfl ?_ ?_
 ·intro c2
  exact absurd rfl c2
 ·intro c2
  refine au 5 ?_
  refine aa rfl (i7 rfl rfl) ?_
  refine au 9 ?_
  refine ae rfl (aF Tryz.call302 rfl (Ey W0 _ _)) ?_
  rintro _ B_ ⟨rfl, hB_⟩
  obtain rfl := hB_.symm
  refine aa rfl (ag rfl) ?_
  refine ae rfl (mc (us := [.pointer (some ⟨ps, 0, none⟩)]) (cs := []) rfl yd rfl (xn hF hf (by omega) hw)) ?_
  rintro _ B_ ⟨rfl, hB_⟩
  obtain rfl := hB_.symm
  refine au 9 ?_
  refine ai rfl ?_ ?_
  ·intro c6
   exact absurd rfl c6
  ·intro c6
   refine au 7 ?_
   refine aa rfl (bj rfl rfl (Ew _)) ?_
   refine ae rfl (mc (us := [.pointer (some ⟨ps, 0, none⟩)]) (cs := []) rfl yd rfl (xn (off := 0) (uy hF) (by rw [uz]; exact hf) (by decide) (Nat.mod_lt _ (by decide)))) ?_
   rintro _ B_ ⟨rfl, hB_⟩
   obtain rfl := hB_.symm
   refine au 4 ?_
   refine ah (.inl rfl) (.cons (ac rfl) .nil) ?_
   refine ⟨_, ⟨rfl, eG (eG fr f ((4 + 4 * (jg fr f 0 4 % 8) : Nat) : Int) 4 w) f ((0 : Nat) : Int) 4 ((jg fr f 0 4 + 1) % 4294967296), rfl⟩, inferInstance⟩
theorem EA {n f : Nat} (hf : f < n) : jg (List.replicate n bi) f 0 4 = 0 := by
 rw [jg, if_pos (su (by simpa using hf))]
 have : (List.replicate n bi).getD ((f : Int).toNat) [] = bi := by simp [List.getD, hf]
 rw [this]; decide
theorem sx (W0 : World) (R : List HP) (ps n f : Nat) (hf : f < n) :
  ao Tryz.prog W0 209 [.pointer (some ⟨ps, 0, none⟩), .int .i64 f, wV 0] (bn ps (List.replicate n bi) :: R)
   (fun v B => v = .tuple #[.agg #[wV 0, wV 0, wV 0, .bool false], .int .i64 0] ∧ B = bn ps (List.replicate n bi) :: R) := by
 have h0 := EA hf
 refine d5 Tryz.func209 Tryz.ntmps209 rfl rfl ?_
 refine al (az (ae rfl (cd pJ) ?_))
 rintro _ _ ⟨b1, rfl, rfl⟩
 refine aa rfl (ax rfl) (aw (ak (al (az (aa rfl (ag rfl) (aa rfl (ag rfl) ?_))))))
 refine ae rfl (aM Tryz.call301 rfl (xm W0 _ ps (List.replicate n bi) f (dJ.new n) (by simpa using hf))) ?_
 rintro _ B_ ⟨rfl, hB_⟩
 obtain rfl := hB_.symm
 rw [h0]
 refine aa rfl (ag rfl) (aa rfl (bZ rfl rfl) (aa rfl (bZ rfl rfl) (aa rfl (ax rfl) (aa rfl (ax rfl) (aw (ak (al (dt (al (az (aa rfl (ag rfl) (aa rfl (du rfl rfl) (aa rfl (ax rfl) (aw (ak ?_)))))))))))))))
 refine ai rfl ?_ ?_
 ·intro c2
  exact absurd rfl c2
 ·intro c2
  refine al (az (aa rfl (ag rfl) (aa rfl (ag rfl) (aa rfl (dd rfl rfl) (aa rfl (ax rfl) (aw (ak ?_)))))))
  refine ai rfl ?_ ?_
  ·intro c4
   refine al (az (aa rfl (ag rfl) (aa rfl (bI Fv pJ (aA cg (aA cg (aA cg (aA cu bH)))) (aS rfl cg rfl rfl (Nat.le_of_ble_eq_true rfl) SetL.eq bG)) ?_)))
   refine b0 (bS pK rfl rfl rfl rfl rfl) ?_
   rintro _ _ rfl
   refine aa rfl (ax rfl) (aw (ak (bY (dO (cn (ah (.inl rfl) (.cons (fh Tryz.isAgg377 pK rfl rfl) (.cons (ac rfl) .nil)) ?_))))))
   exact ⟨_, ⟨rfl, rfl⟩, inferInstance⟩
  ·intro c4
   exact absurd rfl c4
theorem kD {gbs : List Nat} {sp : List Value} {i g : Nat} (h : gbs[i]? = some g) : (gbs.map pV ++ sp)[i * 1]? = some (pV g) := by
 obtain ⟨hi, hg⟩ := List.getElem?_eq_some_iff.1 h
 rw [Nat.mul_one, List.getElem?_append_left (by rw [List.length_map]; exact hi)]
 simp [hi, hg]
section
variable {rb vb pv tr : Nat} {cs : List Value}
theorem EB (W0 : World) (R : List HP) (hb : Nat) (cf : Cfg) (ps pb db qb gb : Nat) (a : Option Addr) (cap : Nat) (gbs : List Nat) (i g : Nat) (hg : gbs[i]? = some g) (hi4 : gbs.length ≤ 4) (rl : List Nat) (pc : Nat) (es : List Evt)
  (h : GC rb vb pv tr cs) (hl : rl.length = 16) (hn : es.length < 4096) (hp : pc < 1000) (hw : rl.getD 1 0 = 0) :
  ao Tryz.prog W0 13 [pV hb, .slice a gbs.length cap, .int .i64 i] (pt hb (aj (eR cf ps pb db qb gb) 119) :: osl 50 1 (.slice a gbs.length cap) (gbs.map pV) :: pt g (bE cs) :: pt rb (bD rl pc) :: bO tr es :: R)
   (fun v B => v = .tuple #[.int .i64 0, .int .i64 0] ∧ B = pt hb (aj (eR cf ps pb db qb gb) 119) :: osl 50 1 (.slice a gbs.length cap) (gbs.map pV) :: pt g (bE cs) :: pt rb (bD (cW rl 0 i) (pc + 4)) :: bO tr (es ++ [⟨2, 0, 0, 0, pc, cW rl 0 i⟩]) :: R) := by
 have hi := (List.getElem?_eq_some_iff.1 hg).1
 refine d5 Tryz.func13 Tryz.ntmps13 rfl rfl ?_
 refine al (az (aa rfl (ax rfl) (aa rfl (ax rfl) (aw (ak (al (al ?_)))))))
 refine dP (r := osl 50 1) (b := .slice a gbs.length cap) (gr (fun h1 h2 => by have := congrArg List.length h2; rw [List.length_map, List.length_nil] at this; omega) fun lg nn c2 sp h1 h2 h3 h4 h5 => ?_)
 cases h1
 refine az (aa rfl (ag rfl) (ae rfl (aM pH rfl (mR W0 _ hb cf ps pb db qb gb)) ?_))
 rintro _ B_ ⟨rfl, hB_⟩
 obtain rfl := hB_.symm
 refine aa rfl (ag rfl) ?_
 refine aZ rfl rfl rfl ?_ ?_
 ·intro g1_3
  exact absurd g1_3 (by decide)
 ·intro g1_3
  refine aa rfl (ag rfl) (aY rfl rfl (aa rfl (eO rfl rfl) (aa rfl (d4 rfl rfl) (aa rfl (ag rfl) ?_))))
  refine aZ rfl rfl rfl ?_ ?_
  ·intro g1_7
   omega
  ·intro g1_7
   refine aa rfl (ag rfl) (aY rfl rfl (aa rfl (ag rfl) (aY rfl rfl (aa rfl (dU ff rfl) (aY rfl rfl (aa rfl (iQ rfl rfl) (aa rfl (d4 rfl rfl) (aa rfl (ag rfl) ?_))))))))
   refine aZ rfl rfl rfl ?_ ?_
   ·intro g1_13
    omega
   ·intro g1_13
    refine aa rfl (ag rfl) (aY rfl rfl (aa rfl (ag rfl) (aY rfl rfl ?_)))
    refine aa rfl (bM ff fg rfl rfl rfl hi (by first | exact Nat.zero_add _ | rfl)) ?_
    refine aY rfl rfl (aa rfl (am gm rfl (aH (kD hg))) ?_)
    refine aY rfl rfl (aa rfl (jT xQ rfl rfl) (aa rfl (d4 rfl rfl) (aw (ak ?_))))
    refine ai rfl ?_ ?_
    ·intro c1
     cases c1
    ·intro c1
     refine cy (ak (al (az (aa rfl (ag rfl) (aa rfl (ag rfl) ?_)))))
     refine aa rfl (bM ff fg rfl rfl rfl hi (by first | exact Nat.zero_add _ | rfl)) ?_
     refine aa rfl (am gm rfl (aH (kD hg))) ?_
     refine ae rfl (eE Tryz.call33 rfl (xj W0 _ g rl pc h hl)) ?_
     rintro _ B_ ⟨rfl, hB_⟩
     obtain rfl := hB_.symm
     rw [hw]
     refine aa rfl (ag rfl) (aa rfl (bZ rfl rfl) (aa rfl (bZ rfl rfl) (ae rfl (cd lV) ?_)))
     rintro _ _ ⟨b9, rfl, rfl⟩
     refine aa rfl (ax rfl) (b0 (bS eh rfl rfl rfl rfl rfl) ?_)
     rintro _ _ rfl
     refine aw (ak (al ?_))
     refine bR [(lg, 0, _), (b9, 0, _)] 13 bQ rfl (aC (aC aB)) (fun hS => ?_)
     refine ab 0 rfl rfl rfl hS (ag rfl) ?_
     refine ab 1 rfl rfl rfl hS (ag rfl) ?_
     refine ab 2 rfl rfl rfl hS (bM ff fg rfl rfl rfl hi (by first | exact Nat.zero_add _ | rfl)) ?_
     refine ab 3 rfl rfl rfl hS (am gm rfl (av (k := 0) rfl (kD hg))) ?_
     refine ab 4 rfl rfl rfl hS (ag rfl) ?_
     refine ab 5 rfl rfl rfl hS (ag rfl) ?_
     refine ab 6 rfl rfl rfl hS (cj jN eh rfl (cT (k := 1) rfl) rfl) ?_
     refine ab 7 rfl rfl rfl hS (bI eB FD (aA fg (aA ar (aA cg (aA eh (aA ar bH))))) (aS rfl fg rfl rfl (Nat.le_of_ble_eq_true rfl) SetL.eq (aS rfl ar rfl rfl (Nat.le_of_ble_eq_true rfl) SetL.eq (aS rfl cg rfl rfl (Nat.le_of_ble_eq_true rfl) SetL.eq (i5 rfl eh rfl rfl (Nat.le_of_ble_eq_true rfl) SetRL.eq bG))))) ?_
     refine ab 8 rfl rfl rfl hS (ag rfl) ?_
     refine ab 9 rfl rfl rfl hS (ag rfl) ?_
     refine ab 10 rfl rfl rfl hS (bI dj FE (aA eb (aA jc (aA nx bH))) (i5 rfl eb rfl rfl (Nat.le_of_ble_eq_true rfl) SetRL.eq (aS rfl jc rfl rfl (Nat.le_of_ble_eq_true rfl) SetL.eq (aS rfl nx rfl rfl (Nat.le_of_ble_eq_true rfl) SetL.eq bG)))) ?_
     refine aW 11 (by kernel_rfl) rfl rfl (bw rfl) rfl ?_; clear hS
     rintro _ _ ⟨cb, rfl, rfl⟩
     refine ⟨(aC (aC aB)), fun hS => ?_⟩
     refine ab 12 rfl rfl rfl hS (ax rfl) ?_
     refine bz (by kernel_rfl) ?_; clear hS
     refine ak (al (il (b := cb) (o' := aj (j5 g i 0 [wV (rl.getD 2 0), wV (rl.getD 3 0), wV (rl.getD 4 0), wV (rl.getD 5 0)] hb (.slice (some ⟨lg, 0, none⟩) gbs.length cap)) 111) rfl ?_))
     refine az (aa rfl (ag rfl) (ae rfl (aM Tryz.call34 rfl (Ee W0 _ cb g i hb _ _ _ _ _)) ?_))
     rintro _ B_ ⟨rfl, hB_⟩
     obtain rfl := hB_.symm
     refine aa rfl (ax rfl) (aw (ak (al (az (aa rfl (ag rfl) ?_)))))
     refine ae rfl (mc (us := [pV cb]) (cs := []) rfl Tryz.call217 rfl (Ef W0 _ cb g i hb _ _ _ _ _ (by omega))) ?_
     rintro _ B_ ⟨rfl, hB_⟩
     obtain rfl := hB_.symm
     refine aa rfl (ag rfl) (aa rfl (bZ rfl rfl) (aa rfl (bZ rfl rfl) (aa rfl (ax rfl) (aa rfl (ax rfl) (aw (ak (al (al (az (aa rfl (ag rfl) (aa rfl (du rfl rfl) (aa rfl (ag rfl) ?_))))))))))))
     refine bX rfl rfl rfl ?_ ?_
     ·intro g7_3
      exact absurd g7_3 (by decide)
     ·intro g7_3
      refine bK rfl rfl rfl rfl (aa rfl (d4 rfl rfl) (aw (ak (nI rfl (cy (ak (al (az (aa rfl (ag rfl) (aa rfl (aU rfl) ?_))))))))))
      refine aa rfl (ap rfl dj rfl eb rfl (by first | exact Nat.zero_add _ | rfl)) ?_
      refine aa rfl (ap rfl eB rfl fg rfl (by first | exact Nat.zero_add _ | rfl)) ?_
      refine aa rfl (am gm rfl (aH rfl)) ?_
      refine aa rfl (ag rfl) (aa rfl (ag rfl) ?_)
      refine ae rfl (jX Tryz.call35 rfl (xh W0 _ g rl pc es 0 i h hl hn (by decide) hp)) ?_
      rintro _ B_ ⟨rfl, hB_⟩
      obtain rfl := hB_.symm
      rw [hw]
      refine aw (ak (al (az (aa rfl (ag rfl) ?_))))
      refine ae rfl (aM Tryz.call36 rfl (xk W0 _ cb g i hb 0 _ _ _ _ _ (by decide) (by decide))) ?_
      rintro _ B_ ⟨rfl, hB_⟩
      obtain rfl := hB_.symm
      refine aw (ak (al ?_))
      refine bR [(cb, 0, _)] 8 bQ rfl (aC aB) (fun hS => ?_)
      refine ab 0 rfl rfl rfl hS (ag rfl) ?_
      refine ab 1 rfl rfl rfl hS (ag rfl) ?_
      refine ab 2 rfl rfl rfl hS (aU rfl) ?_
      refine ab 3 rfl rfl rfl hS (ap rfl dj rfl eb rfl (by first | exact Nat.zero_add _ | rfl)) ?_
      refine ab 4 rfl rfl rfl hS (ap rfl eB rfl ar rfl (by first | exact Nat.zero_add _ | rfl)) ?_
      refine ab 5 rfl rfl rfl hS (am aT rfl (av (k := 0) rfl rfl)) ?_
      refine ab 6 rfl rfl rfl hS (ax rfl) ?_
      refine ab 7 rfl rfl rfl hS (ax rfl) ?_
      refine bz (by kernel_rfl) ?_; clear hS
      refine ak (bY (ah (.inl rfl) (.cons (ac rfl) (.cons (ac rfl) .nil)) ?_))
      refine ⟨_, ⟨rfl, rfl⟩, ?_⟩
      have e := eP (E := 50) (sz := 1) (g := lg) (n := gbs.length) (cap := cap) (xs := gbs.map pV) (sp := sp) (A := pt lg (aj (gbs.map pV ++ sp) 50) :: pt g (bE cs) :: pt rb (bD (cW rl 0 i) (pc + 4)) :: bO tr (es ++ [⟨2, 0, 0, 0, pc, cW rl 0 i⟩]) :: R) (B := pt g (bE cs) :: pt rb (bD (cW rl 0 i) (pc + 4)) :: bO tr (es ++ [⟨2, 0, 0, 0, pc, cW rl 0 i⟩]) :: R) h2 h3 (by rw [List.length_map]; omega) h5
      exact (inferInstance : Ent _ (pt hb (aj (eR cf ps pb db qb gb) 119) :: pt lg (aj (gbs.map pV ++ sp) 50) :: pt g (bE cs) :: pt rb (bD (cW rl 0 i) (pc + 4)) :: bO tr (es ++ [⟨2, 0, 0, 0, pc, cW rl 0 i⟩]) :: R)).trans (Ent.cons e)
def dD (rl : List Nat) (n : Nat) (x : List Nat) : Nat → List Nat
  | 0 => rl.set 1 n
  | k + 1 => (dD rl n x k).set (k + 2) (x.getD k 0)
theorem lG {rl : List Nat} {n : Nat} {x : List Nat} (h : rl.length = 16) : ∀ k, (dD rl n x k).length = 16
 | 0 => by rw [dD, List.length_set]; exact h
 | k + 1 => by rw [dD, List.length_set]; exact lG h k
theorem p8 (W0 : World) (R : List HP) (g : Nat) (rl : List Nat) (pc n : Nat) (x : List Nat) (hx : x.length = 4) (h : GC rb vb pv tr cs) (hl : rl.length = 16) :
  ao Tryz.prog W0 12 [pV g, wV n, .agg (x.map wV).toArray] (pt g (bE cs) :: pt rb (bD rl pc) :: R) (fun v B => v = .tuple #[] ∧ B = pt g (bE cs) :: pt rb (bD (dD rl n x 4) pc) :: R) := by
 refine aD Tryz.func12 Tryz.ntmps12 rfl rfl ?_
 refine au 2 ?_
 refine ae rfl (bw rfl) ?_
 rintro _ _ ⟨b5, rfl, rfl⟩
 refine au 6 ?_
 refine ae rfl (eE Tryz.call31 rfl (xg W0 _ g rl pc 1 n h hl (by decide) (by decide))) ?_
 rintro _ B_ ⟨rfl, hB_⟩
 obtain rfl := hB_.symm
 refine au 8 ?_
 refine ce (fun k : Nat => k ≤ 4) (fun k => [(0, pV g), (5, pV b5), (6, .int .i64 k)]) (fun k => pt b5 (aj (x.map wV) 43) :: pt g (bE cs) :: pt rb (bD (dD rl n x k) pc) :: R) (fun k => 4 - k) 0 ?_ ?_ ?_ ?_
 ·exact Nat.zero_le _
 ·repeat (first | exact aJ | refine aG rfl ?_)
 ·rw [show dD rl n x 0 = rl.set 1 n from rfl]
  exact inferInstance
 ·intro k hk
  refine au 7 ?_
  refine ai rfl ?_ ?_
  ·intro c3
   refine au 4 ?_
   have hk1 : k < 4 := by omega
   have hg : (x.map wV)[k * 1]? = some (wV (x.getD k 0)) := by
    rw [Nat.mul_one]; simp [List.getD, show k < x.length by omega]
   refine au 3 ?_
   refine aa rfl (bj rfl rfl (by rw [aK (by omega)]; omega : IntKind.wrap .i64 ((k : Int) + 2) = ((k + 2 : Nat) : Int))) ?_
   refine aa rfl (ag rfl) ?_
   refine aa rfl (dv hJ cg rfl rfl rfl hk1 (by first | exact Nat.zero_add _ | rfl)) ?_
   refine aa rfl (am eS rfl (aH hg)) ?_
   refine ae rfl (eE Tryz.call31 rfl (xg W0 _ g (dD rl n x k) pc (k + 2) (x.getD k 0) h (lG hl k) (by omega) (by omega))) ?_
   rintro _ B_ ⟨rfl, hB_⟩
   obtain rfl := hB_.symm
   refine au 5 ?_
   refine aa rfl (bj rfl rfl (by first | exact aK (by omega) | rfl)) ?_
   refine au 3 ?_
   refine bU (k + 1) ?_ ?_ ?_ ?_
   ·omega
   ·omega
   ·repeat (first | exact aJ | refine aG rfl ?_)
   ·rw [show dD rl n x (k + 1) = (dD rl n x k).set (k + 2) (x.getD k 0) from rfl]
    exact inferInstance
  ·intro c3
   refine au 4 ?_
   refine ah (.inr rfl) .nil ?_
   obtain rfl : k = 4 := by omega
   exact ⟨_, ⟨rfl, rfl⟩, inferInstance⟩
end
@[reducible] def ie (b1 b2 b3 b4 b5 : Nat) : Cfg := ⟨1, some ⟨b1, 0, none⟩, 2, [(1, 4, 2), (0, 4, 0)], some ⟨b2, 0, none⟩, 1, [(0, 0, 4)], some ⟨b3, 0, none⟩, 2, [(1, 0), (0, 1)], some ⟨b4, 0, none⟩, 1, [(1, 0)], some ⟨b5, 0, none⟩, 1, [(0, 1)], 0, 8⟩
@[reducible] def sy (b1 b2 b3 b4 b5 : Nat) (R : List HP) : List HP := pt b1 (aj ([(1, 4, 2), (0, 4, 0)].flatMap dB) 72) :: pt b2 (aj ([(0, 0, 4)].flatMap dB) 157) :: pt b3 (aj ([(1, 0), (0, 1)].flatMap cM) 159) :: pt b4 (aj ([(1, 0)].flatMap cM) 61) :: pt b5 (aj ([(0, 1)].flatMap cM) 74) :: R
theorem EC (b1 b2 b3 b4 b5 : Nat) : rt (ie b1 b2 b3 b4 b5) = true := by kernel_rfl
theorem ED (W0 : World) (R : List HP) : ao Tryz.prog W0 23 [] R (fun v B => ∃ b1 b2 b3 b4 b5, v = .agg (bF (ie b1 b2 b3 b4 b5)).toArray ∧ B = sy b1 b2 b3 b4 b5 R) := by
 refine aD Tryz.func23 Tryz.ntmps23 rfl rfl ?_
 refine au 2 ?_
 refine ae rfl (cd FF) ?_
 rintro _ _ ⟨b1, rfl, rfl⟩
 refine au 4 ?_
 refine aa rfl (bI dC lR (aA ar (aA ar (aA ar bH))) (aS rfl ar rfl rfl (Nat.le_of_ble_eq_true rfl) SetL.eq (aS rfl ar rfl rfl (Nat.le_of_ble_eq_true rfl) SetL.eq (aS rfl ar rfl rfl (Nat.le_of_ble_eq_true rfl) SetL.eq bG)))) ?_
 refine aa rfl (bI dC lR (aA ar (aA ar (aA ar bH))) (aS rfl ar rfl rfl (Nat.le_of_ble_eq_true rfl) SetL.eq bG)) ?_
 refine ae rfl (fF eC ei lR rfl (eo rfl rfl (eo rfl rfl fD)) rfl (by decide) (by decide) (by decide)) ?_
 rintro _ _ ⟨b1, rfl, rfl⟩
 refine aa rfl (bI gZ pE (aA ar (aA ar (aA ar bH))) (aS rfl ar rfl rfl (Nat.le_of_ble_eq_true rfl) SetL.eq (aS rfl ar rfl rfl (Nat.le_of_ble_eq_true rfl) SetL.eq bG))) ?_
 refine ae rfl (fF gX ij pE rfl (eo rfl rfl fD) rfl (by decide) (by decide) (by decide)) ?_
 rintro _ _ ⟨b2, rfl, rfl⟩
 refine aa rfl (bI fB jR (aA ar (aA ar bH)) (aS rfl ar rfl rfl (Nat.le_of_ble_eq_true rfl) SetL.eq bG)) ?_
 refine aa rfl (bI fB jR (aA ar (aA ar bH)) (aS rfl ar rfl rfl (Nat.le_of_ble_eq_true rfl) SetL.eq bG)) ?_
 refine ae rfl (fF gE eT jR rfl (eo rfl rfl (eo rfl rfl fD)) rfl (by decide) (by decide) (by decide)) ?_
 rintro _ _ ⟨b3, rfl, rfl⟩
 refine aa rfl (bI fe gY (aA ar (aA ar bH)) (aS rfl ar rfl rfl (Nat.le_of_ble_eq_true rfl) SetL.eq (aS rfl ar rfl rfl (Nat.le_of_ble_eq_true rfl) SetL.eq bG))) ?_
 refine ae rfl (fF gk dT gY rfl (eo rfl rfl fD) rfl (by decide) (by decide) (by decide)) ?_
 rintro _ _ ⟨b4, rfl, rfl⟩
 refine aa rfl (bI xR te (aA ar (aA ar bH)) (aS rfl ar rfl rfl (Nat.le_of_ble_eq_true rfl) SetL.eq bG)) ?_
 refine ae rfl (fF px lS te rfl (eo rfl rfl fD) rfl (by decide) (by decide) (by decide)) ?_
 rintro _ _ ⟨b5, rfl, rfl⟩
 refine aa rfl (bI cG FF (aA ar (aA fc (aA jO (aA j7 (aA j8 (aA xM (aA ar (aA ar bH)))))))) (aS rfl ar rfl rfl (Nat.le_of_ble_eq_true rfl) SetL.eq (aS rfl fc rfl rfl (Nat.le_of_ble_eq_true rfl) SetL.eq (aS rfl jO rfl rfl (Nat.le_of_ble_eq_true rfl) SetL.eq (aS rfl j7 rfl rfl (Nat.le_of_ble_eq_true rfl) SetL.eq (aS rfl j8 rfl rfl (Nat.le_of_ble_eq_true rfl) SetL.eq (aS rfl xM rfl rfl (Nat.le_of_ble_eq_true rfl) SetL.eq (aS rfl ar rfl rfl (Nat.le_of_ble_eq_true rfl) SetL.eq bG)))))))) ?_
 refine b0 (bS dM rfl rfl rfl rfl rfl) ?_
 rintro _ _ rfl
 refine au 3 ?_
 refine il (b := b1) (o' := aj ([(1, 4, 2), (0, 4, 0)].flatMap dB) 72) rfl ?_
 refine il (b := b2) (o' := aj ([(0, 0, 4)].flatMap dB) 157) rfl ?_
 refine il (b := b3) (o' := aj ([(1, 0), (0, 1)].flatMap cM) 159) rfl ?_
 refine il (b := b4) (o' := aj ([(1, 0)].flatMap cM) 61) rfl ?_
 refine il (b := b5) (o' := aj ([(0, 1)].flatMap cM) 74) rfl ?_
 refine ah (.inl rfl) (.cons (fh gC dM rfl rfl) .nil) ?_
 exact ⟨_, ⟨b1, b2, b3, b4, b5, rfl, rfl⟩, inferInstance⟩
theorem EE {W0 W : World} {b1 b2 b3 b4 b5 : Nat} {R : List HP} (hO : Own W0 W (sy b1 b2 b3 b4 b5 R)) : CfK W (ie b1 b2 b3 b4 b5) :=
 ⟨⟨mB hO (jA (b := b1) (fun _ => rfl) rfl), mB hO (jA (b := b2) (fun _ => rfl) rfl), mB hO (jA (b := b3) (fun _ => rfl) rfl), mB hO (jA (b := b4) (fun _ => rfl) rfl), mB hO (jA (b := b5) (fun _ => rfl) rfl), Nat.le_refl _⟩, Nat.le_refl _⟩
abbrev dr (gb i n : Nat) (a b c d hb : Nat) (lv : Value) : Obj := aj (j5 gb i n [wV a, wV b, wV c, wV d] hb lv) 111
abbrev co (cf : Cfg) (ps pb db qb gb : Nat) : Obj := aj (eR cf ps pb db qb gb) 119
def gA (cf : Cfg) (a : Nat) : Value := if a < cf.nl.length then .tuple #[.agg (cM (dq cf a)).toArray, .int .i64 (fy cf a), .int .i64 0] else .tuple #[.agg #[.int .i64 0, .int .i64 0], .int .i64 0, .int .i64 3]
theorem lH (W0 : World) (R : List HP) (cb gb i n a b c d hb : Nat) (lv : Value) (cf : Cfg) (ps pb db qb tb : Nat) (h : CfK W0 cf) (hn : cf.nl.length ≤ 4) (ha : a < 4294967296) :
  ao Tryz.prog W0 207 [pV cb] (pt cb (dr gb i n a b c d hb lv) :: pt hb (co cf ps pb db qb tb) :: R)
   (fun v B => v = gA cf a ∧ B = pt cb (dr gb i n a b c d hb lv) :: pt hb (co cf ps pb db qb tb) :: R) := by
 by_cases hl : a < cf.nl.length
 ·obtain ⟨g, o, hna, hc⟩ := (h.ok.n (pt cb (dr gb i n a b c d hb lv) :: pt hb (co cf ps pb db qb tb) :: R)).at_ hl
  obtain ⟨x, hx⟩ : ∃ x, cf.nl[a] = x := ⟨_, rfl⟩
  rw [hx] at hc
  rw [gA, if_pos hl, show dq cf a = x by simp [dq, List.getD, hl, hx]]
  refine aD Tryz.func207 Tryz.ntmps207 rfl rfl ?_
  refine au 2 ?_
  refine ae rfl (cd gY) ?_
  rintro _ _ ⟨b1, rfl, rfl⟩
  refine au 6 ?_
  refine bR [(cb, 0, _), (hb, 0, _)] 18 bQ rfl (aC (aC aB)) (fun hS => ?_)
  refine ab 0 rfl rfl rfl hS (ag rfl) ?_
  refine ab 1 rfl rfl rfl hS (aU rfl) ?_
  refine ab 2 rfl rfl rfl hS (ap rfl dj rfl eb rfl (by first | exact Nat.zero_add _ | rfl)) ?_
  refine ab 3 rfl rfl rfl hS (ap rfl eB rfl eh rfl (by first | exact Nat.zero_add _ | rfl)) ?_
  refine ab 4 rfl rfl rfl hS (dv hJ cg rfl rfl (i := 0) rfl (by decide) (by first | exact Nat.zero_add _ | rfl)) ?_
  refine ab 5 rfl rfl rfl hS (am eS rfl (av (k := 0) (j := 3) rfl rfl)) ?_
  refine ab 6 rfl rfl rfl hS (g5 gH tz rfl (nH (by omega))) ?_
  refine ab 7 rfl rfl rfl hS (ag rfl) ?_
  refine ab 8 rfl rfl rfl hS (aU rfl) ?_
  refine ab 9 rfl rfl rfl hS (ap rfl dj rfl jc rfl (by first | exact Nat.zero_add _ | rfl)) ?_
  refine ab 10 rfl rfl rfl hS (am lW rfl (av (k := 0) (j := 8) rfl rfl)) ?_
  refine ab 11 rfl rfl rfl hS (aU rfl) ?_
  refine ab 12 rfl rfl rfl hS (ap rfl gW rfl dM rfl (by first | exact Nat.zero_add _ | rfl)) ?_
  refine ab 13 rfl rfl rfl hS (ap rfl cG rfl j8 rfl (by first | exact Nat.zero_add _ | rfl)) ?_
  refine ab 14 rfl rfl rfl hS (am jM rfl (av (k := 1) (j := 4) rfl rfl)) ?_
  refine ab 15 rfl rfl rfl hS (dU gk rfl) ?_
  refine ab 16 rfl rfl rfl hS (g5 dN tz rfl (nH (by omega))) ?_
  refine ab 17 rfl rfl rfl hS (iQ rfl rfl) ?_
  refine bz (by kernel_rfl) ?_; clear hS
  refine ak ?_
  refine ai rfl ?_ ?_
  ·intro c1
   omega
  ·intro c1
   refine au 8 ?_
   refine aa rfl (dv hJ cg rfl rfl (i := 0) rfl (by decide) (by first | exact Nat.zero_add _ | rfl)) ?_
   refine aa rfl (am eS rfl (aH rfl)) ?_
   refine aa rfl (g5 gH dN rfl (by first | exact aK (by omega) | rfl)) ?_
   refine au 4 ?_
   refine bR [(cb, 0, _), (hb, 0, _), (g, o + a * 2, cM x)] 23 bQ rfl (aC (aC (cm hc.weak aB))) (fun hS => ?_)
   refine ab 0 rfl rfl rfl hS (ag rfl) ?_
   refine ab 1 rfl rfl rfl hS (aU rfl) ?_
   refine ab 2 rfl rfl rfl hS (ap rfl dj rfl jc rfl (by first | exact Nat.zero_add _ | rfl)) ?_
   refine ab 3 rfl rfl rfl hS (am lW rfl (by first | exact av (k := 0) rfl rfl | exact av (k := 1) rfl rfl | exact av (k := 2) rfl rfl)) ?_
   refine ab 4 rfl rfl rfl hS (aU rfl) ?_
   refine ab 5 rfl rfl rfl hS (ap rfl gW rfl dM rfl (by first | exact Nat.zero_add _ | rfl)) ?_
   refine ab 6 rfl rfl rfl hS (ap rfl cG rfl j8 rfl (by first | exact Nat.zero_add _ | rfl)) ?_
   refine ab 7 rfl rfl rfl hS (am jM rfl (by first | exact av (k := 0) rfl rfl | exact av (k := 1) rfl rfl | exact av (k := 2) rfl rfl)) ?_
   refine ab 8 rfl rfl rfl hS (ag rfl) ?_
   refine ab 9 rfl rfl rfl hS (di gk dT rfl hna rfl rfl hl (by first | exact Nat.zero_add _ | rfl)) ?_
   refine ab 10 rfl rfl rfl hS (cj kF dT rfl (cT (k := 2) rfl) rfl) ?_
   refine ab 11 rfl rfl rfl hS (ag rfl) ?_
   refine ab 12 rfl rfl rfl hS (aU rfl) ?_
   refine ab 13 rfl rfl rfl hS (ap rfl dj rfl jc rfl (by first | exact Nat.zero_add _ | rfl)) ?_
   refine ab 14 rfl rfl rfl hS (am lW rfl (by first | exact av (k := 0) rfl rfl | exact av (k := 1) rfl rfl | exact av (k := 2) rfl rfl)) ?_
   refine ab 15 rfl rfl rfl hS (aU rfl) ?_
   refine ab 16 rfl rfl rfl hS (ap rfl gW rfl dM rfl (by first | exact Nat.zero_add _ | rfl)) ?_
   refine ab 17 rfl rfl rfl hS (cj gC dM rfl (rm (l1 := bF cf) (l2 := [pV ps, pV pb, pV db, pV qb, pV tb]) (cT (k := 1) rfl)) rfl) ?_
   refine ab 18 rfl rfl rfl hS (ag rfl) ?_
   refine aW 19 (by kernel_rfl) rfl rfl (aF Tryz.call189 rfl (wu W0 _ cf h a)) rfl ?_; clear hS
   rintro _ B_ ⟨rfl, hB_⟩
   obtain rfl := hB_.symm
   refine ⟨(aC (aC (cm hc.weak aB))), fun hS => ?_⟩
   refine aW 20 (by kernel_rfl) rfl rfl (bS dT rfl rfl rfl rfl rfl) rfl ?_; clear hS
   rintro _ _ rfl
   refine ⟨(aC (aC (cm hc.weak aB))), fun hS => ?_⟩
   refine ab 21 rfl rfl rfl hS (ax rfl) ?_
   refine ab 22 rfl rfl rfl hS (ax rfl) ?_
   refine bz (by kernel_rfl) ?_; clear hS
   refine au 2 ?_
   refine ah (.inl rfl) (.cons (fh kF dT rfl rfl) (.cons (ac rfl) (.cons (ac rfl) .nil))) ?_
   exact ⟨_, ⟨rfl, rfl⟩, inferInstance⟩
 ·rw [gA, if_neg hl]
  refine aD Tryz.func207 Tryz.ntmps207 rfl rfl ?_
  refine au 2 ?_
  refine ae rfl (cd gY) ?_
  rintro _ _ ⟨b1, rfl, rfl⟩
  refine au 6 ?_
  refine bR [(cb, 0, _), (hb, 0, _)] 18 bQ rfl (aC (aC aB)) (fun hS => ?_)
  refine ab 0 rfl rfl rfl hS (ag rfl) ?_
  refine ab 1 rfl rfl rfl hS (aU rfl) ?_
  refine ab 2 rfl rfl rfl hS (ap rfl dj rfl eb rfl (by first | exact Nat.zero_add _ | rfl)) ?_
  refine ab 3 rfl rfl rfl hS (ap rfl eB rfl eh rfl (by first | exact Nat.zero_add _ | rfl)) ?_
  refine ab 4 rfl rfl rfl hS (dv hJ cg rfl rfl (i := 0) rfl (by decide) (by first | exact Nat.zero_add _ | rfl)) ?_
  refine ab 5 rfl rfl rfl hS (am eS rfl (by first | exact av (k := 0) rfl rfl | exact av (k := 1) rfl rfl)) ?_
  refine ab 6 rfl rfl rfl hS (g5 gH tz rfl (nH (by omega))) ?_
  refine ab 7 rfl rfl rfl hS (ag rfl) ?_
  refine ab 8 rfl rfl rfl hS (aU rfl) ?_
  refine ab 9 rfl rfl rfl hS (ap rfl dj rfl jc rfl (by first | exact Nat.zero_add _ | rfl)) ?_
  refine ab 10 rfl rfl rfl hS (am lW rfl (by first | exact av (k := 0) rfl rfl | exact av (k := 1) rfl rfl)) ?_
  refine ab 11 rfl rfl rfl hS (aU rfl) ?_
  refine ab 12 rfl rfl rfl hS (ap rfl gW rfl dM rfl (by first | exact Nat.zero_add _ | rfl)) ?_
  refine ab 13 rfl rfl rfl hS (ap rfl cG rfl j8 rfl (by first | exact Nat.zero_add _ | rfl)) ?_
  refine ab 14 rfl rfl rfl hS (am jM rfl (by first | exact av (k := 0) rfl rfl | exact av (k := 1) rfl rfl)) ?_
  refine ab 15 rfl rfl rfl hS (dU gk rfl) ?_
  refine ab 16 rfl rfl rfl hS (g5 dN tz rfl (nH (by omega))) ?_
  refine ab 17 rfl rfl rfl hS (iQ rfl rfl) ?_
  refine bz (by kernel_rfl) ?_; clear hS
  refine ak ?_
  refine ai rfl ?_ ?_
  ·intro c1
   refine au 2 ?_
   refine aa rfl (bI fe gY (aA ar (aA ar bH)) bG) ?_
   refine b0 (bS dT rfl rfl rfl rfl rfl) ?_
   rintro _ _ rfl
   refine au 6 ?_
   refine ah (.inl rfl) (.cons (fh kF dT rfl rfl) (.cons (ac rfl) (.cons (ac rfl) .nil))) ?_
   exact ⟨_, ⟨rfl, rfl⟩, inferInstance⟩
  ·intro c1
   omega
theorem EF (W0 : World) (R : List HP) (cb gb i n a b c d hb : Nat) (lv : Value) (cf : Cfg) (ps pb db qb tb : Nat) (hi : (i : Int) ≠ cf.gate) :
  ao Tryz.prog W0 91 ([pV cb] ++ [] ++ []) (pt cb (dr gb i n a b c d hb lv) :: pt hb (co cf ps pb db qb tb) :: R)
   (fun v B => v = .tuple #[.int .i64 4, wV 0] ∧ B = pt cb (dr gb i n a b c d hb lv) :: pt hb (co cf ps pb db qb tb) :: R) := by
 simp only [List.append_nil]
 refine aD Tryz.func91 Tryz.ntmps91 rfl rfl ?_
 refine au 7 ?_
 refine bR [(cb, 0, _)] 21 bQ rfl (aC aB) (fun hS => ?_)
 refine ab 0 rfl rfl rfl hS (ag rfl) ?_
 refine ab 1 rfl rfl rfl hS (aU rfl) ?_
 refine ab 2 rfl rfl rfl hS (ap rfl dj rfl eb rfl (by first | exact Nat.zero_add _ | rfl)) ?_
 refine ab 3 rfl rfl rfl hS (ap rfl eB rfl eh rfl (by first | exact Nat.zero_add _ | rfl)) ?_
 refine ab 4 rfl rfl rfl hS (dv hJ cg rfl rfl (i := 0) rfl (by decide) (by first | exact Nat.zero_add _ | rfl)) ?_
 refine ab 5 rfl rfl rfl hS (am eS rfl (av (k := 0) rfl rfl)) ?_
 refine ab 6 rfl rfl rfl hS (ag rfl) ?_
 refine ab 7 rfl rfl rfl hS (aU rfl) ?_
 refine ab 8 rfl rfl rfl hS (ap rfl dj rfl eb rfl (by first | exact Nat.zero_add _ | rfl)) ?_
 refine ab 9 rfl rfl rfl hS (ap rfl eB rfl eh rfl (by first | exact Nat.zero_add _ | rfl)) ?_
 refine ab 10 rfl rfl rfl hS (dv hJ cg rfl rfl (i := 1) rfl (by decide) (by first | exact Nat.zero_add _ | rfl)) ?_
 refine ab 11 rfl rfl rfl hS (am eS rfl (av (k := 0) rfl rfl)) ?_
 refine ab 12 rfl rfl rfl hS (ag rfl) ?_
 refine ab 13 rfl rfl rfl hS (aU rfl) ?_
 refine ab 14 rfl rfl rfl hS (ap rfl dj rfl eb rfl (by first | exact Nat.zero_add _ | rfl)) ?_
 refine ab 15 rfl rfl rfl hS (ap rfl eB rfl eh rfl (by first | exact Nat.zero_add _ | rfl)) ?_
 refine ab 16 rfl rfl rfl hS (dv hJ cg rfl rfl (i := 2) rfl (by decide) (by first | exact Nat.zero_add _ | rfl)) ?_
 refine ab 17 rfl rfl rfl hS (am eS rfl (av (k := 0) rfl rfl)) ?_
 refine ab 18 rfl rfl rfl hS (ax rfl) ?_
 refine ab 19 rfl rfl rfl hS (ax rfl) ?_
 refine ab 20 rfl rfl rfl hS (ax rfl) ?_
 refine bz (by kernel_rfl) ?_; clear hS
 refine au 4 ?_
 refine bR [(cb, 0, _), (hb, 0, _)] 15 bQ rfl (aC (aC aB)) (fun hS => ?_)
 refine ab 0 rfl rfl rfl hS (ag rfl) ?_
 refine ab 1 rfl rfl rfl hS (aU rfl) ?_
 refine ab 2 rfl rfl rfl hS (ap rfl dj rfl eb rfl (by first | exact Nat.zero_add _ | rfl)) ?_
 refine ab 3 rfl rfl rfl hS (ap rfl eB rfl ar rfl (by first | exact Nat.zero_add _ | rfl)) ?_
 refine ab 4 rfl rfl rfl hS (am aT rfl (by first | exact av (k := 0) rfl rfl | exact av (k := 1) rfl rfl)) ?_
 refine ab 5 rfl rfl rfl hS (ag rfl) ?_
 refine ab 6 rfl rfl rfl hS (aU rfl) ?_
 refine ab 7 rfl rfl rfl hS (ap rfl dj rfl jc rfl (by first | exact Nat.zero_add _ | rfl)) ?_
 refine ab 8 rfl rfl rfl hS (am lW rfl (by first | exact av (k := 0) rfl rfl | exact av (k := 1) rfl rfl)) ?_
 refine ab 9 rfl rfl rfl hS (aU rfl) ?_
 refine ab 10 rfl rfl rfl hS (ap rfl gW rfl dM rfl (by first | exact Nat.zero_add _ | rfl)) ?_
 refine ab 11 rfl rfl rfl hS (ap rfl cG rfl ar rfl (by first | exact Nat.zero_add _ | rfl)) ?_
 refine ab 12 rfl rfl rfl hS (am aT rfl (by first | exact av (k := 0) rfl rfl | exact av (k := 1) rfl rfl)) ?_
 refine ab 13 rfl rfl rfl hS (du rfl rfl) ?_
 refine ab 14 rfl rfl rfl hS (ax rfl) ?_
 refine bz (by kernel_rfl) ?_; clear hS
 refine ak ?_
 refine ai rfl ?_ ?_
 ·intro c2
  refine au 9 ?_
  refine ah (.inl rfl) (.cons (ac rfl) (.cons (ac rfl) .nil)) ?_
  exact ⟨_, ⟨rfl, rfl⟩, inferInstance⟩
 ·intro c2
  exact absurd hi (by simpa using c2)
theorem EG (W0 : World) (R : List HP) (k : Nat) (hk : k < 4) : ao Tryz.prog W0 305 [.int .i64 k] R (fun v B => v = .bool true ∧ B = R) := by
 refine aD Tryz.func305 Tryz.ntmps305 rfl rfl ?_
 refine au 10 ?_
 refine bX rfl rfl rfl ?_ ?_
 ·intro g1_3
  refine au 8 ?_
  refine ah (.inl rfl) (.cons (ac rfl) .nil) ?_
  rw [show decide ((k : Int) < 4) = true by simp; omega]
  exact ⟨_, ⟨rfl, rfl⟩, inferInstance⟩
 ·intro g1_3
  exact absurd (Int.natCast_nonneg k) g1_3
theorem xo (W0 : World) (R : List HP) (gb k : Nat) {rb vb pv tr : Nat} {cs : List Value} (h : GC rb vb pv tr cs) (hk : k < 4) : ao Tryz.prog W0 210 [pV gb, .int .i64 k] (pt gb (bE cs) :: R) (fun v B => v = wV 0 ∧ B = pt gb (bE cs) :: R) := by
 refine aD Tryz.func210 Tryz.ntmps210 rfl rfl ?_
 refine au 9 ?_
 refine ae rfl (aM nv rfl (lF W0 _ gb h)) ?_
 rintro _ B_ ⟨rfl, hB_⟩
 obtain rfl := hB_.symm
 refine aa rfl (ag rfl) ?_
 refine aZ rfl rfl rfl ?_ ?_
 ·intro g1_3
  exact absurd g1_3 (by decide)
 ·intro g1_3
  refine au 2 ?_
  refine ae rfl (aF Tryz.call305 rfl (EG W0 _ k hk)) ?_
  rintro _ B_ ⟨rfl, hB_⟩
  obtain rfl := hB_.symm
  refine au 5 ?_
  refine ai rfl ?_ ?_
  ·intro c1
   exact absurd c1 (by decide)
  ·intro c1
   refine au 9 ?_
   refine aa rfl (dv hJ cg rfl rfl (i := k) rfl hk (by first | exact Nat.zero_add _ | rfl)) ?_
   refine aa rfl (am eS rfl (aH (h.rd k hk))) ?_
   refine au 4 ?_
   refine ah (.inl rfl) (.cons (ac rfl) .nil) ?_
   exact ⟨_, ⟨rfl, rfl⟩, inferInstance⟩
theorem EH (W0 : World) (R : List HP) (hb : Nat) (c : Cfg) (ps pb db qb gb : Nat) : ao Tryz.prog W0 14 [pV hb] (pt hb (co c ps pb db qb gb) :: R) (fun v B => v = pV gb ∧ B = pt hb (co c ps pb db qb gb) :: R) := by
 refine d5 Tryz.func14 Tryz.ntmps14 rfl rfl ?_
 refine al (az (aa rfl (ax rfl) (aw (ak (al (al (az (aa rfl (ag rfl) (ae rfl (aM pH rfl (mR W0 _ hb c ps pb db qb gb)) ?_)))))))))
 rintro _ B_ ⟨rfl, hB_⟩
 obtain rfl := hB_.symm
 refine aw (ak ?_)
 refine ai rfl ?_ ?_
 ·intro c1
  exact absurd c1 (by decide)
 ·intro c1
  refine cy (ak (al (az (aa rfl (ag rfl) (aa rfl (aU rfl) ?_)))))
  refine aa rfl (ap rfl gW rfl sM rfl (by first | exact Nat.zero_add _ | rfl)) ?_
  refine aa rfl (am Tryz.isAgg55 rfl (aH rfl)) ?_
  refine aa rfl (ax rfl) (aw (ak (bY (ah (.inl rfl) (.cons (ac rfl) .nil) ?_))))
  exact ⟨_, ⟨rfl, rfl⟩, inferInstance⟩
theorem EI (W0 : World) (R : List HP) (gb : Nat) (a b c : Int) : ao Tryz.prog W0 37 [pV gb] (pt gb (gU a b c) :: R) (fun v B => v = .bool false ∧ B = pt gb (gU a b c) :: R) := by
 refine aD Tryz.func37 Tryz.ntmps37 rfl rfl ?_
 refine au 10 ?_
 refine aZ rfl rfl rfl ?_ ?_
 ·intro g1_3
  cases g1_3
 ·intro g1_3
  refine au 14 ?_
  refine ah (.inl rfl) (.cons (ac rfl) .nil) ?_
  exact ⟨_, ⟨rfl, rfl⟩, inferInstance⟩
theorem EJ (W0 : World) (R : List HP) (gb : Nat) (a b c : Int) : ao Tryz.prog W0 15 [pV gb] (pt gb (gU a b c) :: R) (fun v B => v = cZ ∧ B = pt gb (gU a b c) :: R) := by
 have hcl : ∀ A, ao Tryz.prog W0 38 [cZ] A (fun v B => v = cZ ∧ B = A) := fun A => by
  refine aD Tryz.func38 Tryz.ntmps38 rfl rfl ?_
  refine au 9 ?_
  refine aa rfl (qi FG rfl rfl) (au 2 ?_)
  refine ai rfl ?_ ?_
  ·intro c1
   refine au 7 ?_
   refine ah (.inl rfl) (.cons (ac rfl) .nil) ?_
   exact ⟨_, ⟨rfl, rfl⟩, inferInstance⟩
  ·intro c1
   exact absurd rfl c1
 refine aD Tryz.func15 Tryz.ntmps15 rfl rfl ?_
 refine au 9 ?_
 refine ae rfl (aM Tryz.call37 rfl (EI W0 _ gb a b c)) ?_
 rintro _ B_ ⟨rfl, hB_⟩
 obtain rfl := hB_.symm
 refine au 2 ?_
 refine ai rfl ?_ ?_
 ·intro c1
  exact absurd c1 (by decide)
 ·intro c1
  refine au 9 ?_
  refine ae rfl (aF Tryz.call38 rfl (hcl _)) ?_
  rintro _ B_ ⟨rfl, hB_⟩
  obtain rfl := hB_.symm
  refine au 4 ?_
  refine ah (.inl rfl) (.cons (ac rfl) .nil) ?_
  exact ⟨_, ⟨rfl, rfl⟩, inferInstance⟩
def eg (cf : Cfg) (i a : Nat) : Nat := if a < cf.nl.length then (if (dq cf a).1 = i then 0 else 4) else 3
def ig (cf : Cfg) (i a : Nat) : Nat := if a < cf.nl.length then (if (dq cf a).2 = i then 3 else 4) else 3
section
variable {W0 : World} {R : List HP} {cb gb i a b c d hb : Nat} {cf : Cfg} {ps pb db qb tb : Nat}
theorem EK (lv : Value) (h : CfK W0 cf) (hn : cf.nl.length ≤ 4) (ha : a < 4294967296) (hs : eg cf i a ≠ 0) :
  ao Tryz.prog W0 89 ([pV cb] ++ [] ++ []) (pt cb (dr gb i 8 a b c d hb lv) :: pt hb (co cf ps pb db qb tb) :: R)
   (fun v B => v = .tuple #[.int .i64 (eg cf i a : Nat), wV 0] ∧ B = pt cb (dr gb i 8 a b c d hb lv) :: pt hb (co cf ps pb db qb tb) :: R) := by
 simp only [List.append_nil]
 by_cases hl : a < cf.nl.length
 ·have hx : ¬ (dq cf a).1 = i := fun e => hs (by rw [eg, if_pos hl, if_pos e])
  have hv : gA cf a = .tuple #[.agg (cM (dq cf a)).toArray, .int .i64 (fy cf a), .int .i64 0] := by rw [gA, if_pos hl]
  rw [eg, if_pos hl, if_neg hx]
  refine aD yC Tryz.ntmps89 rfl rfl ?_
  refine au 9 ?_
  refine ae rfl (eE ny rfl (lH W0 _ cb gb i 8 a b c d hb lv cf ps pb db qb tb h hn ha)) ?_
  rintro _ B_ ⟨rfl, hB_⟩
  obtain rfl := hB_.symm
  rw [hv]
  refine au 4 ?_
  refine ae rfl (cd gY) ?_
  rintro _ _ ⟨br, rfl, rfl⟩
  refine b0 (bS dT rfl rfl rfl rfl rfl) ?_
  rintro _ _ rfl
  refine au 13 ?_
  refine ai rfl ?_ ?_
  ·intro c2
   exact absurd rfl c2
  ·intro c2
   refine al ?_
   refine bR [(cb, 0, _), (br, 0, _)] 9 bQ rfl (aC (aC aB)) (fun hS => ?_)
   refine ab 0 rfl rfl rfl hS (ap rfl fe rfl ar rfl (by first | exact Nat.zero_add _ | rfl)) ?_
   refine ab 1 rfl rfl rfl hS (am aT rfl (by first | exact av (k := 0) rfl rfl | exact av (k := 1) rfl rfl)) ?_
   refine ab 2 rfl rfl rfl hS (ag rfl) ?_
   refine ab 3 rfl rfl rfl hS (aU rfl) ?_
   refine ab 4 rfl rfl rfl hS (ap rfl dj rfl eb rfl (by first | exact Nat.zero_add _ | rfl)) ?_
   refine ab 5 rfl rfl rfl hS (ap rfl eB rfl ar rfl (by first | exact Nat.zero_add _ | rfl)) ?_
   refine ab 6 rfl rfl rfl hS (am aT rfl (by first | exact av (k := 0) rfl rfl | exact av (k := 1) rfl rfl)) ?_
   refine ab 7 rfl rfl rfl hS (du rfl rfl) ?_
   refine ab 8 rfl rfl rfl hS (ax rfl) ?_
   refine bz (by kernel_rfl) ?_; clear hS
   refine ak ?_
   refine ai rfl ?_ ?_
   ·intro c4
    refine au 9 ?_
    refine ah (.inl rfl) (.cons (ac rfl) (.cons (ac rfl) .nil)) ?_
    exact ⟨_, ⟨rfl, rfl⟩, inferInstance⟩
   ·intro c4
    exact absurd (by simpa using c4) hx
 ·have hv : gA cf a = .tuple #[.agg #[.int .i64 0, .int .i64 0], .int .i64 0, .int .i64 3] := by rw [gA, if_neg hl]
  rw [eg, if_neg hl]
  refine aD yC Tryz.ntmps89 rfl rfl ?_
  refine au 9 ?_
  refine ae rfl (eE ny rfl (lH W0 _ cb gb i 8 a b c d hb lv cf ps pb db qb tb h hn ha)) ?_
  rintro _ B_ ⟨rfl, hB_⟩
  obtain rfl := hB_.symm
  rw [hv]
  refine au 4 ?_
  refine ae rfl (cd gY) ?_
  rintro _ _ ⟨br, rfl, rfl⟩
  refine b0 (bS dT rfl rfl rfl rfl rfl) ?_
  rintro _ _ rfl
  refine au 13 ?_
  refine ai rfl ?_ ?_
  ·intro c2
   refine au 10 ?_
   refine ah (.inl rfl) (.cons (ac rfl) (.cons (ac rfl) .nil)) ?_
   exact ⟨_, ⟨rfl, rfl⟩, inferInstance⟩
  ·intro c2
   exact absurd c2 (by decide)
theorem EL (lv : Value) (h : CfK W0 cf) (hr : rt cf = true) (ha : a < 4294967296) (hX : ¬ (a < cf.nl.length ∧ (dq cf a).2 = i)) :
  ao Tryz.prog W0 90 ([pV cb] ++ [] ++ []) (pt cb (dr gb i 9 a b c d hb lv) :: pt hb (co cf ps pb db qb tb) :: R)
   (fun v B => v = .tuple #[.int .i64 (ig cf i a : Nat), wV 0] ∧ B = pt cb (dr gb i 9 a b c d hb lv) :: pt hb (co cf ps pb db qb tb) :: R) := by
 have hn := (eQ hr).nn
 simp only [List.append_nil]
 by_cases hl : a < cf.nl.length
 ·have hv : gA cf a = .tuple #[.agg (cM (dq cf a)).toArray, .int .i64 (fy cf a), .int .i64 0] := by rw [gA, if_pos hl]
  have hx : ¬ (dq cf a).2 = i := fun e => hX ⟨hl, e⟩
  rw [ig, if_pos hl, if_neg hx]
  refine aD yD Tryz.ntmps90 rfl rfl ?_
  refine au 9 ?_
  refine ae rfl (eE ny rfl (lH W0 _ cb gb i 9 a b c d hb lv cf ps pb db qb tb h hn ha)) ?_
  rintro _ B_ ⟨rfl, hB_⟩
  obtain rfl := hB_.symm
  rw [hv]
  refine au 4 ?_
  refine ae rfl (cd gY) ?_
  rintro _ _ ⟨br, rfl, rfl⟩
  refine b0 (bS dT rfl rfl rfl rfl rfl) ?_
  rintro _ _ rfl
  refine au 13 ?_
  refine ai rfl ?_ ?_
  ·intro c2
   exact absurd rfl c2
  ·intro c2
   refine al ?_
   refine bR [(cb, 0, _), (br, 0, _)] 9 bQ rfl (aC (aC aB)) (fun hS => ?_)
   refine ab 0 rfl rfl rfl hS (ap rfl fe rfl ar rfl (by first | exact Nat.zero_add _ | rfl)) ?_
   refine ab 1 rfl rfl rfl hS (am aT rfl (by first | exact av (k := 0) rfl rfl | exact av (k := 1) rfl rfl)) ?_
   refine ab 2 rfl rfl rfl hS (ag rfl) ?_
   refine ab 3 rfl rfl rfl hS (aU rfl) ?_
   refine ab 4 rfl rfl rfl hS (ap rfl dj rfl eb rfl (by first | exact Nat.zero_add _ | rfl)) ?_
   refine ab 5 rfl rfl rfl hS (ap rfl eB rfl ar rfl (by first | exact Nat.zero_add _ | rfl)) ?_
   refine ab 6 rfl rfl rfl hS (am aT rfl (by first | exact av (k := 0) rfl rfl | exact av (k := 1) rfl rfl)) ?_
   refine ab 7 rfl rfl rfl hS (du rfl rfl) ?_
   refine ab 8 rfl rfl rfl hS (ax rfl) ?_
   refine bz (by kernel_rfl) ?_; clear hS
   refine ak ?_
   refine ai rfl ?_ ?_
   ·intro c4
    refine au 9 ?_
    refine ah (.inl rfl) (.cons (ac rfl) (.cons (ac rfl) .nil)) ?_
    exact ⟨_, ⟨rfl, rfl⟩, inferInstance⟩
   ·intro c4
    exact absurd (by simpa using c4) hx
 ·have hv : gA cf a = .tuple #[.agg #[.int .i64 0, .int .i64 0], .int .i64 0, .int .i64 3] := by rw [gA, if_neg hl]
  rw [ig, if_neg hl]
  refine aD yD Tryz.ntmps90 rfl rfl ?_
  refine au 9 ?_
  refine ae rfl (eE ny rfl (lH W0 _ cb gb i 9 a b c d hb lv cf ps pb db qb tb h hn ha)) ?_
  rintro _ B_ ⟨rfl, hB_⟩
  obtain rfl := hB_.symm
  rw [hv]
  refine au 4 ?_
  refine ae rfl (cd gY) ?_
  rintro _ _ ⟨br, rfl, rfl⟩
  refine b0 (bS dT rfl rfl rfl rfl rfl) ?_
  rintro _ _ rfl
  refine au 13 ?_
  refine ai rfl ?_ ?_
  ·intro c2
   refine au 10 ?_
   refine ah (.inl rfl) (.cons (ac rfl) (.cons (ac rfl) .nil)) ?_
   exact ⟨_, ⟨rfl, rfl⟩, inferInstance⟩
  ·intro c2
   exact absurd c2 (by decide)
theorem xp {cf : Cfg} {a : Nat} (hr : rt cf = true) (hl : a < cf.nl.length) : ∃ f : Nat, fy cf a = f ∧ f < aQ cf := by
 have hR := eQ hr
 have := jn hR.gs cf.gl.length (Nat.le_refl _)
 have := kw cf cf.gl.length
 refine ⟨(fy cf a).toNat, ?_, ?_⟩
 ·rw [fy, if_pos ⟨hr, by omega, by omega⟩]; omega
 ·rw [fy, if_pos ⟨hr, by omega, by omega⟩, aQ]; omega
theorem EM (lv : Value) (h : CfK W0 cf) (hr : rt cf = true) (hl : a < cf.nl.length) (hx : (dq cf a).2 = i) {rb vb pv tr : Nat} {cs : List Value} (hG : GC rb vb pv tr cs) :
  ao Tryz.prog W0 90 ([pV cb] ++ [] ++ []) (pt cb (dr gb i 9 a b c d hb lv) :: pt hb (co cf ps pb db qb tb) :: pt gb (bE cs) :: bn ps (List.replicate (aQ cf) bi) :: R)
   (fun v B => v = .tuple #[.int .i64 3, wV 0] ∧ B = pt cb (dr gb i 9 a b c d hb lv) :: pt hb (co cf ps pb db qb tb) :: pt gb (bE cs) :: bn ps (List.replicate (aQ cf) bi) :: R) := by
 have hn := (eQ hr).nn
 simp only [List.append_nil]
 obtain ⟨f, hf1, hf2⟩ := xp hr hl
 have hv : gA cf a = .tuple #[.agg (cM (dq cf a)).toArray, .int .i64 (f : Int), .int .i64 0] := by rw [gA, if_pos hl, hf1]
 have ha4 : a < 4 := by omega
 refine aD yD Tryz.ntmps90 rfl rfl ?_
 refine au 9 ?_
 refine ae rfl (eE ny rfl (lH W0 _ cb gb i 9 a b c d hb lv cf ps pb db qb tb h hn (by omega))) ?_
 rintro _ B_ ⟨rfl, hB_⟩
 obtain rfl := hB_.symm
 rw [hv]
 refine au 4 ?_
 refine ae rfl (cd gY) ?_
 rintro _ _ ⟨br, rfl, rfl⟩
 refine b0 (bS dT rfl rfl rfl rfl rfl) ?_
 rintro _ _ rfl
 refine au 13 ?_
 refine ai rfl ?_ ?_
 ·intro c2
  exact absurd rfl c2
 ·intro c2
  refine al ?_
  refine bR [(cb, 0, _), (br, 0, _)] 9 bQ rfl (aC (aC aB)) (fun hS => ?_)
  refine ab 0 rfl rfl rfl hS (ap rfl fe rfl ar rfl (by first | exact Nat.zero_add _ | rfl)) ?_
  refine ab 1 rfl rfl rfl hS (am aT rfl (by first | exact av (k := 0) rfl rfl | exact av (k := 1) rfl rfl)) ?_
  refine ab 2 rfl rfl rfl hS (ag rfl) ?_
  refine ab 3 rfl rfl rfl hS (aU rfl) ?_
  refine ab 4 rfl rfl rfl hS (ap rfl dj rfl eb rfl (by first | exact Nat.zero_add _ | rfl)) ?_
  refine ab 5 rfl rfl rfl hS (ap rfl eB rfl ar rfl (by first | exact Nat.zero_add _ | rfl)) ?_
  refine ab 6 rfl rfl rfl hS (am aT rfl (by first | exact av (k := 0) rfl rfl | exact av (k := 1) rfl rfl)) ?_
  refine ab 7 rfl rfl rfl hS (du rfl rfl) ?_
  refine ab 8 rfl rfl rfl hS (ax rfl) ?_
  refine bz (by kernel_rfl) ?_; clear hS
  refine ak ?_
  refine ai rfl ?_ ?_
  ·intro c4
   exact absurd (by simpa using c4) (not_not_intro hx)
  ·intro c4
   refine au 9 ?_
   refine aa rfl (dv hJ cg rfl rfl (i := 0) rfl (by decide) (by first | exact Nat.zero_add _ | rfl)) ?_
   refine aa rfl (am eS rfl (aH rfl)) ?_
   refine aa rfl (g5 gH dN rfl (aK (by omega))) ?_
   refine au 4 ?_
   refine bR [(cb, 0, _), (hb, 0, _)] 22 bQ rfl (aC (aC aB)) (fun hS => ?_)
   refine ab 0 rfl rfl rfl hS (ag rfl) ?_
   refine ab 1 rfl rfl rfl hS (aU rfl) ?_
   refine ab 2 rfl rfl rfl hS (ap rfl dj rfl jc rfl (by first | exact Nat.zero_add _ | rfl)) ?_
   refine ab 3 rfl rfl rfl hS (am lW rfl (by first | exact av (k := 0) rfl rfl | exact av (k := 1) rfl rfl)) ?_
   refine ab 4 rfl rfl rfl hS (aU rfl) ?_
   refine ab 5 rfl rfl rfl hS (ap rfl gW rfl iN rfl (by first | exact Nat.zero_add _ | rfl)) ?_
   refine ab 6 rfl rfl rfl hS (am mV rfl (by first | exact av (k := 0) rfl rfl | exact av (k := 1) rfl rfl)) ?_
   refine ab 7 rfl rfl rfl hS (ag rfl) ?_
   refine ab 8 rfl rfl rfl hS (ag rfl) ?_
   refine ab 9 rfl rfl rfl hS (aU rfl) ?_
   refine ab 10 rfl rfl rfl hS (ap rfl dj rfl eb rfl (by first | exact Nat.zero_add _ | rfl)) ?_
   refine ab 11 rfl rfl rfl hS (ap rfl eB rfl fg rfl (by first | exact Nat.zero_add _ | rfl)) ?_
   refine ab 12 rfl rfl rfl hS (am gm rfl (by first | exact av (k := 0) rfl rfl | exact av (k := 1) rfl rfl)) ?_
   refine ab 13 rfl rfl rfl hS (ag rfl) ?_
   refine i6 (is := [14, 19]) (by kernel_rfl) rfl ⟨?_, ?_, trivial⟩
   ·skip
    refine ed rfl rfl (aM Tryz.call210 rfl (xo W0 _ gb a hG ha4)) rfl ?_; clear hS
    rintro _ B_ ⟨rfl, hB_⟩
    obtain rfl := hB_.symm
    refine ⟨(aC (aC aB)), fun hS => ?_⟩
    refine i6 (is := [15, 19]) (by kernel_rfl) rfl ⟨?_, ?_, trivial⟩
    ·skip
     refine ed rfl rfl (aM yE rfl (sx W0 _ ps (aQ cf) f hf2)) rfl ?_; clear hS
     rintro _ B_ ⟨rfl, hB_⟩
     obtain rfl := hB_.symm
     refine ⟨(aC (aC aB)), fun hS => ?_⟩
     refine ab 16 rfl rfl rfl hS (ag rfl) ?_
     refine ab 17 rfl rfl rfl hS (bZ rfl rfl) ?_
     refine ab 18 rfl rfl rfl hS (bZ rfl rfl) ?_
     refine aW 19 (by kernel_rfl) rfl rfl (cd pJ) rfl ?_; clear hS
     rintro _ _ ⟨bg, rfl, rfl⟩
     refine ⟨(aC (aC aB)), fun hS => ?_⟩
     refine aW 20 (by kernel_rfl) rfl rfl (bS pK rfl rfl rfl rfl rfl) rfl ?_; clear hS
     rintro _ _ rfl
     refine ⟨(aC (aC aB)), fun hS => ?_⟩
     refine ab 21 rfl rfl rfl hS (ax rfl) ?_
     refine bz (by kernel_rfl) ?_; clear hS
     refine au 10 ?_
     refine ai rfl ?_ ?_
     ·intro c8
      exact absurd rfl c8
     ·intro c8
      refine au 8 ?_
      refine ai rfl ?_ ?_
      ·intro c10
       refine au 9 ?_
       refine ah (.inl rfl) (.cons (ac rfl) (.cons (ac rfl) .nil)) ?_
       exact ⟨_, ⟨rfl, rfl⟩, inferInstance⟩
      ·intro c10
       exact absurd c10 (by decide)
    ·skip
     refine ed rfl rfl (cd pJ) rfl ?_; clear hS
     rintro _ _ ⟨bg, rfl, rfl⟩
     refine ⟨(aC (aC aB)), fun hS => ?_⟩
     refine aW 15 (by kernel_rfl) rfl rfl (aM yE rfl (sx W0 _ ps (aQ cf) f hf2)) rfl ?_; clear hS
     rintro _ B_ ⟨rfl, hB_⟩
     obtain rfl := hB_.symm
     refine ⟨(aC (aC aB)), fun hS => ?_⟩
     refine ab 16 rfl rfl rfl hS (ag rfl) ?_
     refine ab 17 rfl rfl rfl hS (bZ rfl rfl) ?_
     refine ab 18 rfl rfl rfl hS (bZ rfl rfl) ?_
     refine aW 20 (by kernel_rfl) rfl rfl (bS pK rfl rfl rfl rfl rfl) rfl ?_; clear hS
     rintro _ _ rfl
     refine ⟨(aC (aC aB)), fun hS => ?_⟩
     refine ab 21 rfl rfl rfl hS (ax rfl) ?_
     refine bz (by kernel_rfl) ?_; clear hS
     refine au 10 ?_
     refine ai rfl ?_ ?_
     ·intro c8
      exact absurd rfl c8
     ·intro c8
      refine au 8 ?_
      refine ai rfl ?_ ?_
      ·intro c10
       refine au 9 ?_
       refine ah (.inl rfl) (.cons (ac rfl) (.cons (ac rfl) .nil)) ?_
       exact ⟨_, ⟨rfl, rfl⟩, inferInstance⟩
      ·intro c10
       exact absurd c10 (by decide)
   ·skip
    refine ed rfl rfl (cd pJ) rfl ?_; clear hS
    rintro _ _ ⟨bg, rfl, rfl⟩
    refine ⟨(aC (aC aB)), fun hS => ?_⟩
    refine aW 14 (by kernel_rfl) rfl rfl (aM Tryz.call210 rfl (xo W0 _ gb a hG ha4)) rfl ?_; clear hS
    rintro _ B_ ⟨rfl, hB_⟩
    obtain rfl := hB_.symm
    refine ⟨(aC (aC aB)), fun hS => ?_⟩
    refine aW 15 (by kernel_rfl) rfl rfl (aM yE rfl (sx W0 _ ps (aQ cf) f hf2)) rfl ?_; clear hS
    rintro _ B_ ⟨rfl, hB_⟩
    obtain rfl := hB_.symm
    refine ⟨(aC (aC aB)), fun hS => ?_⟩
    refine ab 16 rfl rfl rfl hS (ag rfl) ?_
    refine ab 17 rfl rfl rfl hS (bZ rfl rfl) ?_
    refine ab 18 rfl rfl rfl hS (bZ rfl rfl) ?_
    refine aW 20 (by kernel_rfl) rfl rfl (bS pK rfl rfl rfl rfl rfl) rfl ?_; clear hS
    rintro _ _ rfl
    refine ⟨(aC (aC aB)), fun hS => ?_⟩
    refine ab 21 rfl rfl rfl hS (ax rfl) ?_
    refine bz (by kernel_rfl) ?_; clear hS
    refine au 10 ?_
    refine ai rfl ?_ ?_
    ·intro c8
     exact absurd rfl c8
    ·intro c8
     refine au 8 ?_
     refine ai rfl ?_ ?_
     ·intro c10
      refine au 9 ?_
      refine ah (.inl rfl) (.cons (ac rfl) (.cons (ac rfl) .nil)) ?_
      exact ⟨_, ⟨rfl, rfl⟩, inferInstance⟩
     ·intro c10
      exact absurd c10 (by decide)
theorem EN (lg : Nat) (sp : List Value) (gbs : List Nat) (cap : Nat) (h : CfK W0 cf) (hr : rt cf = true) (hl : a < cf.nl.length) (hx : (dq cf a).1 = i) {j g2 : Nat} (hj : (dq cf a).2 = j) (hg : gbs[j]? = some g2) (hb4 : b < 4294967296) (hgl : gbs.length ≤ 4) {rb vb pv tr : Nat} {cs : List Value} (hG : GC rb vb pv tr cs) {fr : List bJ} (hF : dJ fr) (hfl : fr.length = aQ cf) :
  ao Tryz.prog W0 89 ([pV cb] ++ [] ++ []) (pt cb (dr gb i 8 a b c d hb (.slice (some ⟨lg, 0, none⟩) gbs.length cap)) :: pt hb (co cf ps pb db qb tb) :: pt lg (aj (gbs.map pV ++ sp) 50) :: bn ps fr :: pt g2 (bE cs) :: pt vb ib :: R)
   (fun v B => v = .tuple #[.int .i64 0, wV 0] ∧ ∃ Y, B = pt cb (dr gb i 8 a b c d hb (.slice (some ⟨lg, 0, none⟩) gbs.length cap)) :: pt hb (co cf ps pb db qb tb) :: pt lg (aj (gbs.map pV ++ sp) 50) :: (Y ++ R)) := by
 have hn := (eQ hr).nn
 have hjl := (List.getElem?_eq_some_iff.1 hg).1
 simp only [List.append_nil]
 obtain ⟨f, hf1, hf2⟩ := xp hr hl
 have hv : gA cf a = .tuple #[.agg #[.int .i64 i, .int .i64 j], .int .i64 (f : Int), .int .i64 0] := by
  rw [gA, if_pos hl, hf1]; unfold cM; rw [hx, hj]
 refine aD yC Tryz.ntmps89 rfl rfl ?_
 refine au 9 ?_
 refine ae rfl (eE ny rfl (lH W0 _ cb gb i 8 a b c d hb _ cf ps pb db qb tb h hn (by omega))) ?_
 rintro _ B_ ⟨rfl, hB_⟩
 obtain rfl := hB_.symm
 rw [hv]
 refine au 4 ?_
 refine ae rfl (cd gY) ?_
 rintro _ _ ⟨br, rfl, rfl⟩
 refine b0 (bS dT rfl rfl rfl rfl rfl) ?_
 rintro _ _ rfl
 refine au 13 ?_
 refine ai rfl ?_ ?_
 ·intro c2
  exact absurd rfl c2
 ·intro c2
  refine al ?_
  refine bR [(cb, 0, _), (br, 0, _)] 9 bQ rfl (aC (aC aB)) (fun hS => ?_)
  refine ab 0 rfl rfl rfl hS (ap rfl fe rfl ar rfl (by first | exact Nat.zero_add _ | rfl)) ?_
  refine ab 1 rfl rfl rfl hS (am aT rfl (by first | exact av (k := 0) rfl rfl | exact av (k := 1) rfl rfl)) ?_
  refine ab 2 rfl rfl rfl hS (ag rfl) ?_
  refine ab 3 rfl rfl rfl hS (aU rfl) ?_
  refine ab 4 rfl rfl rfl hS (ap rfl dj rfl eb rfl (by first | exact Nat.zero_add _ | rfl)) ?_
  refine ab 5 rfl rfl rfl hS (ap rfl eB rfl ar rfl (by first | exact Nat.zero_add _ | rfl)) ?_
  refine ab 6 rfl rfl rfl hS (am aT rfl (by first | exact av (k := 0) rfl rfl | exact av (k := 1) rfl rfl)) ?_
  refine ab 7 rfl rfl rfl hS (du rfl rfl) ?_
  refine ab 8 rfl rfl rfl hS (ax rfl) ?_
  refine bz (by kernel_rfl) ?_; clear hS
  refine ak ?_
  refine ai rfl ?_ ?_
  ·intro c4
   exact absurd rfl c4
  ·intro c4
   refine au 4 ?_
   refine bR [(cb, 0, _), (hb, 0, _)] 16 bQ rfl (aC (aC aB)) (fun hS => ?_)
   refine ab 0 rfl rfl rfl hS (ag rfl) ?_
   refine ab 1 rfl rfl rfl hS (aU rfl) ?_
   refine ab 2 rfl rfl rfl hS (ap rfl dj rfl jc rfl (by first | exact Nat.zero_add _ | rfl)) ?_
   refine ab 3 rfl rfl rfl hS (am lW rfl (by first | exact av (k := 0) rfl rfl | exact av (k := 1) rfl rfl)) ?_
   refine ab 4 rfl rfl rfl hS (aU rfl) ?_
   refine ab 5 rfl rfl rfl hS (ap rfl gW rfl iN rfl (by first | exact Nat.zero_add _ | rfl)) ?_
   refine ab 6 rfl rfl rfl hS (am mV rfl (by first | exact av (k := 0) rfl rfl | exact av (k := 1) rfl rfl)) ?_
   refine ab 7 rfl rfl rfl hS (ag rfl) ?_
   refine ab 8 rfl rfl rfl hS (ag rfl) ?_
   refine ab 9 rfl rfl rfl hS (aU rfl) ?_
   refine ab 10 rfl rfl rfl hS (ap rfl dj rfl eb rfl (by first | exact Nat.zero_add _ | rfl)) ?_
   refine ab 11 rfl rfl rfl hS (ap rfl eB rfl eh rfl (by first | exact Nat.zero_add _ | rfl)) ?_
   refine ab 12 rfl rfl rfl hS (dv hJ cg rfl rfl (i := 1) rfl (by decide) (by first | exact Nat.zero_add _ | rfl)) ?_
   refine ab 13 rfl rfl rfl hS (am eS rfl (by first | exact av (k := 0) rfl rfl | exact av (k := 1) rfl rfl)) ?_
   refine aW 14 (by kernel_rfl) rfl rfl (aM Tryz.call208 rfl (Ez W0 _ ps fr f b hF (by omega) hb4)) rfl ?_; clear hS
   rintro _ _ ⟨rfl, fr', rfl⟩
   refine ⟨(aC (aC aB)), fun hS => ?_⟩
   refine ab 15 rfl rfl rfl hS (ax rfl) ?_
   refine bz (by kernel_rfl) ?_; clear hS
   refine au 3 ?_
   refine bR [(cb, 0, _), (br, 0, _)] 8 bQ rfl (aC (aC aB)) (fun hS => ?_)
   refine ab 0 rfl rfl rfl hS (ap rfl fe rfl ar rfl (by first | exact Nat.zero_add _ | rfl)) ?_
   refine ab 1 rfl rfl rfl hS (am aT rfl (by first | exact av (k := 0) rfl rfl | exact av (k := 1) rfl rfl)) ?_
   refine ab 2 rfl rfl rfl hS (ag rfl) ?_
   refine ab 3 rfl rfl rfl hS (aU rfl) ?_
   refine ab 4 rfl rfl rfl hS (ap rfl dj rfl nx rfl (by first | exact Nat.zero_add _ | rfl)) ?_
   refine ab 5 rfl rfl rfl hS (am Tryz.isAgg31 rfl (by first | exact av (k := 0) rfl rfl | exact av (k := 1) rfl rfl)) ?_
   refine ab 6 rfl rfl rfl hS (dU ff rfl) ?_
   refine ab 7 rfl rfl rfl hS (eO rfl rfl) ?_
   refine bz (by kernel_rfl) ?_; clear hS
   refine ak ?_
   refine ai rfl ?_ ?_
   ·intro c7
    refine bR [(cb, 0, _), (br, 0, _), (lg, 0, _)] 10 bQ rfl (aC (aC (aC aB))) (fun hS => ?_)
    refine ab 0 rfl rfl rfl hS (ag rfl) ?_
    refine ab 1 rfl rfl rfl hS (aU rfl) ?_
    refine ab 2 rfl rfl rfl hS (ap rfl dj rfl nx rfl (by first | exact Nat.zero_add _ | rfl)) ?_
    refine ab 3 rfl rfl rfl hS (am Tryz.isAgg31 rfl (by first | exact av (k := 0) rfl rfl | exact av (k := 1) rfl rfl | exact av (k := 2) rfl rfl)) ?_
    refine ab 4 rfl rfl rfl hS (ap rfl fe rfl ar rfl (by first | exact Nat.zero_add _ | rfl)) ?_
    refine ab 5 rfl rfl rfl hS (am aT rfl (by first | exact av (k := 0) rfl rfl | exact av (k := 1) rfl rfl | exact av (k := 2) rfl rfl)) ?_
    refine ab 6 rfl rfl rfl hS (bM ff fg rfl rfl rfl hjl (by first | exact Nat.zero_add _ | rfl)) ?_
    refine ab 7 rfl rfl rfl hS (am gm rfl (av (k := 2) rfl (kD hg))) ?_
    refine aW 8 (by kernel_rfl) rfl rfl (aM Tryz.call205 rfl (E7 W0 _ g2 hG)) rfl ?_; clear hS
    rintro _ B_ ⟨rfl, hB_⟩
    obtain rfl := hB_.symm
    refine ⟨(aC (aC (aC aB))), fun hS => ?_⟩
    refine aW 9 (by kernel_rfl) rfl rfl (aM Tryz.call206 rfl (Eu W0 _ vb)) rfl ?_; clear hS
    rintro _ _ ⟨rfl, va, vc, rfl⟩
    refine ⟨(aC (aC (aC aB))), fun hS => ?_⟩
    refine bz (by kernel_rfl) ?_; clear hS
    refine au 9 ?_
    refine ah (.inl rfl) (.cons (ac rfl) (.cons (ac rfl) .nil)) ?_
    refine ⟨_, ⟨rfl, [bn ps fr', pt g2 (bE cs), pt vb (fz true 1 1 (.slice va 1 vc))], rfl⟩, ?_⟩
    simp only [List.cons_append, List.nil_append]
    exact inferInstance
   ·intro c7
    omega
end
section
variable {rb vb pv tr : Nat} {cs : List Value}
theorem p9 (W0 : World) (hb : Nat) (cf : Cfg) (ps pb db qb gb : Nat) (a : Option Addr) (cap : Nat) (gbs : List Nat) (i g : Nat) (hg : gbs[i]? = some g) (hi4 : gbs.length ≤ 4) (rl : List Nat) (pc : Nat) (es : List Evt)
  (h : GC rb vb pv tr cs) (hl : rl.length = 16) (hn : es.length < 4096) (hp : pc < 1000) (n e : Nat) (hw : rl.getD 1 0 = n) (hn2 : n ≠ 2) (hn3 : n ≠ 3) (he : e < 100) (fid : FuncId) (X : List HP) (Q : List HP → Prop)
  (hcall : ∀ args w, (callFunc fid args).run Tryz.prog w = .ok (.enter fid args) w)
  (hHow : ∀ cb lv R, ao Tryz.prog W0 34 [pV cb] (pt cb (dr g i n (rl.getD 2 0) (rl.getD 3 0) (rl.getD 4 0) (rl.getD 5 0) hb lv) :: R)
   (fun v B => v = .func (.func fid) #[pV cb] #[] ∧ B = pt cb (dr g i n (rl.getD 2 0) (rl.getD 3 0) (rl.getD 4 0) (rl.getD 5 0) hb lv) :: R))
  (hDo : ∀ cb lg sp, ao Tryz.prog W0 fid ([pV cb] ++ [] ++ []) (pt cb (dr g i n (rl.getD 2 0) (rl.getD 3 0) (rl.getD 4 0) (rl.getD 5 0) hb (.slice (some ⟨lg, 0, none⟩) gbs.length cap)) :: pt hb (co cf ps pb db qb gb) :: pt lg (aj (gbs.map pV ++ sp) 50) :: pt g (bE cs) :: pt rb (bD rl pc) :: bO tr es :: X)
   (fun v B => v = .tuple #[.int .i64 e, wV 0] ∧ ∃ Y, Q Y ∧ B = pt cb (dr g i n (rl.getD 2 0) (rl.getD 3 0) (rl.getD 4 0) (rl.getD 5 0) hb (.slice (some ⟨lg, 0, none⟩) gbs.length cap)) :: pt hb (co cf ps pb db qb gb) :: pt lg (aj (gbs.map pV ++ sp) 50) :: pt g (bE cs) :: pt rb (bD rl pc) :: bO tr es :: Y)) :
  ao Tryz.prog W0 13 [pV hb, .slice a gbs.length cap, .int .i64 i] (pt hb (co cf ps pb db qb gb) :: osl 50 1 (.slice a gbs.length cap) (gbs.map pV) :: pt g (bE cs) :: pt rb (bD rl pc) :: bO tr es :: X)
   (fun v B => v = .tuple #[.int .i64 e, .int .i64 0] ∧ ∃ Y, Q Y ∧ B = pt hb (co cf ps pb db qb gb) :: osl 50 1 (.slice a gbs.length cap) (gbs.map pV) :: pt g (bE cs) :: pt rb (bD (cW rl e 0) (pc + 4)) :: bO tr (es ++ [⟨2, 0, n, e, pc, cW rl e 0⟩]) :: Y) := by
 have hi := (List.getElem?_eq_some_iff.1 hg).1
 refine d5 Tryz.func13 Tryz.ntmps13 rfl rfl ?_
 refine al (az (aa rfl (ax rfl) (aa rfl (ax rfl) (aw (ak (al (al ?_)))))))
 refine dP (r := osl 50 1) (b := .slice a gbs.length cap) (gr (fun h1 h2 => by have := congrArg List.length h2; rw [List.length_map, List.length_nil] at this; omega) fun lg nn c2 sp h1 h2 h3 h4 h5 => ?_)
 cases h1
 refine az (aa rfl (ag rfl) (ae rfl (aM pH rfl (mR W0 _ hb cf ps pb db qb gb)) ?_))
 rintro _ B_ ⟨rfl, hB_⟩
 obtain rfl := hB_.symm
 refine aa rfl (ag rfl) ?_
 refine aZ rfl rfl rfl ?_ ?_
 ·intro g1_3
  exact absurd g1_3 (by decide)
 ·intro g1_3
  refine aa rfl (ag rfl) (aY rfl rfl (aa rfl (eO rfl rfl) (aa rfl (d4 rfl rfl) (aa rfl (ag rfl) ?_))))
  refine aZ rfl rfl rfl ?_ ?_
  ·intro g1_7
   omega
  ·intro g1_7
   refine aa rfl (ag rfl) (aY rfl rfl (aa rfl (ag rfl) (aY rfl rfl (aa rfl (dU ff rfl) (aY rfl rfl (aa rfl (iQ rfl rfl) (aa rfl (d4 rfl rfl) (aa rfl (ag rfl) ?_))))))))
   refine aZ rfl rfl rfl ?_ ?_
   ·intro g1_13
    omega
   ·intro g1_13
    refine aa rfl (ag rfl) (aY rfl rfl (aa rfl (ag rfl) (aY rfl rfl ?_)))
    refine aa rfl (bM ff fg rfl rfl rfl hi (by first | exact Nat.zero_add _ | rfl)) ?_
    refine aY rfl rfl (aa rfl (am gm rfl (aH (kD hg))) ?_)
    refine aY rfl rfl (aa rfl (jT xQ rfl rfl) (aa rfl (d4 rfl rfl) (aw (ak ?_))))
    refine ai rfl ?_ ?_
    ·intro c1
     cases c1
    ·intro c1
     refine cy (ak (al (az (aa rfl (ag rfl) (aa rfl (ag rfl) ?_)))))
     refine aa rfl (bM ff fg rfl rfl rfl hi (by first | exact Nat.zero_add _ | rfl)) ?_
     refine aa rfl (am gm rfl (aH (kD hg))) ?_
     refine ae rfl (eE Tryz.call33 rfl (xj W0 _ g rl pc h hl)) ?_
     rintro _ B_ ⟨rfl, hB_⟩
     obtain rfl := hB_.symm
     rw [hw]
     refine aa rfl (ag rfl) (aa rfl (bZ rfl rfl) (aa rfl (bZ rfl rfl) (ae rfl (cd lV) ?_)))
     rintro _ _ ⟨b9, rfl, rfl⟩
     refine aa rfl (ax rfl) (b0 (bS eh rfl rfl rfl rfl rfl) ?_)
     rintro _ _ rfl
     refine aw (ak (al ?_))
     refine bR [(lg, 0, _), (b9, 0, _)] 13 bQ rfl (aC (aC aB)) (fun hS => ?_)
     refine ab 0 rfl rfl rfl hS (ag rfl) ?_
     refine ab 1 rfl rfl rfl hS (ag rfl) ?_
     refine ab 2 rfl rfl rfl hS (bM ff fg rfl rfl rfl hi (by first | exact Nat.zero_add _ | rfl)) ?_
     refine ab 3 rfl rfl rfl hS (am gm rfl (av (k := 0) rfl (kD hg))) ?_
     refine ab 4 rfl rfl rfl hS (ag rfl) ?_
     refine ab 5 rfl rfl rfl hS (ag rfl) ?_
     refine ab 6 rfl rfl rfl hS (cj jN eh rfl (cT (k := 1) rfl) rfl) ?_
     refine ab 7 rfl rfl rfl hS (bI eB FD (aA fg (aA ar (aA cg (aA eh (aA ar bH))))) (aS rfl fg rfl rfl (Nat.le_of_ble_eq_true rfl) SetL.eq (aS rfl ar rfl rfl (Nat.le_of_ble_eq_true rfl) SetL.eq (aS rfl cg rfl rfl (Nat.le_of_ble_eq_true rfl) SetL.eq (i5 rfl eh rfl rfl (Nat.le_of_ble_eq_true rfl) SetRL.eq bG))))) ?_
     refine ab 8 rfl rfl rfl hS (ag rfl) ?_
     refine ab 9 rfl rfl rfl hS (ag rfl) ?_
     refine ab 10 rfl rfl rfl hS (bI dj FE (aA eb (aA jc (aA nx bH))) (i5 rfl eb rfl rfl (Nat.le_of_ble_eq_true rfl) SetRL.eq (aS rfl jc rfl rfl (Nat.le_of_ble_eq_true rfl) SetL.eq (aS rfl nx rfl rfl (Nat.le_of_ble_eq_true rfl) SetL.eq bG)))) ?_
     refine aW 11 (by kernel_rfl) rfl rfl (bw rfl) rfl ?_; clear hS
     rintro _ _ ⟨cb, rfl, rfl⟩
     refine ⟨(aC (aC aB)), fun hS => ?_⟩
     refine ab 12 rfl rfl rfl hS (ax rfl) ?_
     refine bz (by kernel_rfl) ?_; clear hS
     refine ak (al (il (b := cb) (o' := dr g i n (rl.getD 2 0) (rl.getD 3 0) (rl.getD 4 0) (rl.getD 5 0) hb (.slice (some ⟨lg, 0, none⟩) gbs.length cap)) rfl ?_))
     refine az (aa rfl (ag rfl) (ae rfl (aM Tryz.call34 rfl (hHow cb (.slice (some ⟨lg, 0, none⟩) gbs.length cap) _)) ?_))
     rintro _ B_ ⟨rfl, hB_⟩
     obtain rfl := hB_.symm
     refine aa rfl (ax rfl) (aw (ak (al (eN (B := pt cb (dr g i n (rl.getD 2 0) (rl.getD 3 0) (rl.getD 4 0) (rl.getD 5 0) hb (.slice (some ⟨lg, 0, none⟩) gbs.length cap)) :: pt hb (co cf ps pb db qb gb) :: pt lg (aj (gbs.map pV ++ sp) 50) :: pt g (bE cs) :: pt rb (bD rl pc) :: bO tr es :: X) inferInstance ?_))))
     refine az (aa rfl (ag rfl) (ae rfl (nT (us := [pV cb]) (cs := []) rfl hcall rfl (hDo cb lg sp)) ?_))
     rintro _ B_ ⟨rfl, Y, hQ, hB_⟩
     obtain rfl := hB_.symm
     refine aa rfl (ag rfl) (aa rfl (bZ rfl rfl) (aa rfl (bZ rfl rfl) (aa rfl (ax rfl) (aa rfl (ax rfl) (aw (ak ?_))))))
     refine gn (fun _ : Unit => True) (fun _ => [(10, pV cb), (12, .int .i64 e), (13, wV 0)]) (fun _ => pt cb (dr g i n (rl.getD 2 0) (rl.getD 3 0) (rl.getD 4 0) (rl.getD 5 0) hb (.slice (some ⟨lg, 0, none⟩) gbs.length cap)) :: pt hb (co cf ps pb db qb gb) :: pt lg (aj (gbs.map pV ++ sp) 50) :: pt g (bE cs) :: pt rb (bD rl pc) :: bO tr es :: Y) ?_ ?_
     ·skip
      refine al (az (aa rfl (ag rfl) (aa rfl (du rfl rfl) (aa rfl (ag rfl) ?_))))
      refine bX rfl rfl rfl ?_ ?_
      ·intro g7_3
       refine aa rfl (ag rfl) (aY rfl rfl (aa rfl (du rfl rfl) (aa rfl (cV rfl rfl) (aw (ak ?_)))))
       refine ai rfl ?_ ?_
       ·intro c7
        refine az (aa rfl (ax rfl) (aw (ak ?_)))
        refine d8 () ?_ ?_ ?_
        ·trivial
        ·repeat (first | exact aJ | refine aG rfl ?_)
        ·exact inferInstance
       ·intro c7
        refine cy (ak ?_)
        refine d8 () ?_ ?_ ?_
        ·trivial
        ·repeat (first | exact aJ | refine aG rfl ?_)
        ·exact inferInstance
      ·intro g7_3
       refine bK rfl rfl rfl rfl (aa rfl (d4 rfl rfl) (aw (ak (nI rfl (cy (ak ?_))))))
       refine d8 () ?_ ?_ ?_
       ·trivial
       ·repeat (first | exact aJ | refine aG rfl ?_)
       ·exact inferInstance
     ·intro _ _
      refine al (az (aa rfl (ag rfl) (aa rfl (aU rfl) ?_)))
      refine aa rfl (ap rfl dj rfl eb rfl (by first | exact Nat.zero_add _ | rfl)) ?_
      refine aa rfl (ap rfl eB rfl fg rfl (by first | exact Nat.zero_add _ | rfl)) ?_
      refine aa rfl (am gm rfl (aH rfl)) ?_
      refine aa rfl (ag rfl) (aa rfl (ag rfl) (ae rfl (jX Tryz.call35 rfl (xh W0 _ g rl pc es e 0 h hl hn he hp)) ?_))
      rintro _ B_ ⟨rfl, hB_⟩
      obtain rfl := hB_.symm
      rw [hw]
      refine aw (ak (al (az (aa rfl (ag rfl) (ae rfl (aM Tryz.call36 rfl (xk W0 _ cb g i hb n _ _ _ _ _ hn2 hn3)) ?_)))))
      rintro _ B_ ⟨rfl, hB_⟩
      obtain rfl := hB_.symm
      refine aw (ak (al ?_))
      refine bR [(cb, 0, _)] 8 bQ rfl (aC aB) (fun hS => ?_)
      refine ab 0 rfl rfl rfl hS (ag rfl) ?_
      refine ab 1 rfl rfl rfl hS (ag rfl) ?_
      refine ab 2 rfl rfl rfl hS (aU rfl) ?_
      refine ab 3 rfl rfl rfl hS (ap rfl dj rfl eb rfl (by first | exact Nat.zero_add _ | rfl)) ?_
      refine ab 4 rfl rfl rfl hS (ap rfl eB rfl ar rfl (by first | exact Nat.zero_add _ | rfl)) ?_
      refine ab 5 rfl rfl rfl hS (am aT rfl (av (k := 0) rfl rfl)) ?_
      refine ab 6 rfl rfl rfl hS (ax rfl) ?_
      refine ab 7 rfl rfl rfl hS (ax rfl) ?_
      refine bz (by kernel_rfl) ?_; clear hS
      refine ak (bY (ah (.inl rfl) (.cons (ac rfl) (.cons (ac rfl) .nil)) ?_))
      refine ⟨_, ⟨rfl, Y, hQ, rfl⟩, ?_⟩
      have en := eP (E := 50) (sz := 1) (g := lg) (n := gbs.length) (cap := cap) (xs := gbs.map pV) (sp := sp) (A := pt lg (aj (gbs.map pV ++ sp) 50) :: pt g (bE cs) :: pt rb (bD (cW rl e 0) (pc + 4)) :: bO tr (es ++ [⟨2, 0, n, e, pc, cW rl e 0⟩]) :: Y) (B := pt g (bE cs) :: pt rb (bD (cW rl e 0) (pc + 4)) :: bO tr (es ++ [⟨2, 0, n, e, pc, cW rl e 0⟩]) :: Y) h2 h3 (by rw [List.length_map]; omega) h5
      exact (inferInstance : Ent _ (pt hb (co cf ps pb db qb gb) :: pt lg (aj (gbs.map pV ++ sp) 50) :: pt g (bE cs) :: pt rb (bD (cW rl e 0) (pc + 4)) :: bO tr (es ++ [⟨2, 0, n, e, pc, cW rl e 0⟩]) :: Y)).trans (Ent.cons en)
theorem xq (W0 : World) (cb gb i hb a b c d : Nat) (lv : Value) (R : List HP) : ao Tryz.prog W0 34 [pV cb] (pt cb (dr gb i 8 a b c d hb lv) :: R) (fun v B => v = .func (.func 89) #[pV cb] #[] ∧ B = pt cb (dr gb i 8 a b c d hb lv) :: R) := by
 refine d5 tw Tryz.ntmps34 rfl rfl ?_
 refine al (az (aa rfl (ax rfl) (aw (ak (al (al (az (aa rfl (ag rfl) (aa rfl (aU rfl) ?_)))))))))
 refine aa rfl (ap rfl dj rfl eb rfl (by first | exact Nat.zero_add _ | rfl)) ?_
 refine aa rfl (ap rfl eB rfl cg rfl (by first | exact Nat.zero_add _ | rfl)) ?_
 refine aa rfl (am eS rfl (aH rfl)) ?_
 refine aw (ak (dt (al (az (aa rfl (dd rfl rfl) (aa rfl (ax rfl) (aw (ak ?_))))))))
 refine ai rfl ?_ ?_
 ·intro c2
  exact absurd c2 (by decide)
 ·intro c2
  refine al (az (aa rfl (dd rfl rfl) (aa rfl (ax rfl) (aw (ak ?_)))))
  refine ai rfl ?_ ?_
  ·intro c4
   refine al (az (aa rfl (ag rfl) (aa rfl (i7 rfl rfl) ?_)))
   refine aa rfl (ax rfl) (aw (ak (bY (dO (cn (ah (.inl rfl) (.cons (ac rfl) .nil) ?_))))))
   exact ⟨_, ⟨rfl, rfl⟩, inferInstance⟩
  ·intro c4
   exact absurd rfl c4
theorem EO (W0 : World) (cb gb i hb a b c d : Nat) (lv : Value) (R : List HP) : ao Tryz.prog W0 34 [pV cb] (pt cb (dr gb i 9 a b c d hb lv) :: R) (fun v B => v = .func (.func 90) #[pV cb] #[] ∧ B = pt cb (dr gb i 9 a b c d hb lv) :: R) := by
 refine d5 tw Tryz.ntmps34 rfl rfl ?_
 refine al (az (aa rfl (ax rfl) (aw (ak (al (al (az (aa rfl (ag rfl) (aa rfl (aU rfl) ?_)))))))))
 refine aa rfl (ap rfl dj rfl eb rfl (by first | exact Nat.zero_add _ | rfl)) ?_
 refine aa rfl (ap rfl eB rfl cg rfl (by first | exact Nat.zero_add _ | rfl)) ?_
 refine aa rfl (am eS rfl (aH rfl)) ?_
 refine aw (ak (dt (al (az (aa rfl (dd rfl rfl) (aa rfl (ax rfl) (aw (ak ?_))))))))
 refine ai rfl ?_ ?_
 ·intro c2
  exact absurd c2 (by decide)
 ·intro c2
  refine al (az (aa rfl (dd rfl rfl) (aa rfl (ax rfl) (aw (ak ?_)))))
  refine ai rfl ?_ ?_
  ·intro c4
   exact absurd c4 (by decide)
  ·intro c4
   refine al (az (aa rfl (dd rfl rfl) (aa rfl (ax rfl) (aw (ak ?_)))))
   refine ai rfl ?_ ?_
   ·intro c6
    refine al (az (aa rfl (ag rfl) (aa rfl (i7 rfl rfl) ?_)))
    refine aa rfl (ax rfl) (aw (ak (bY (dO (cn (ah (.inl rfl) (.cons (ac rfl) .nil) ?_))))))
    exact ⟨_, ⟨rfl, rfl⟩, inferInstance⟩
   ·intro c6
    exact absurd rfl c6
theorem EP (W0 : World) (cb gb i hb a b c d : Nat) (lv : Value) (R : List HP) : ao Tryz.prog W0 34 [pV cb] (pt cb (dr gb i 13 a b c d hb lv) :: R) (fun v B => v = .func (.func 91) #[pV cb] #[] ∧ B = pt cb (dr gb i 13 a b c d hb lv) :: R) := by
 refine d5 tw Tryz.ntmps34 rfl rfl ?_
 refine al (az (aa rfl (ax rfl) (aw (ak (al (al (az (aa rfl (ag rfl) (aa rfl (aU rfl) ?_)))))))))
 refine aa rfl (ap rfl dj rfl eb rfl (by first | exact Nat.zero_add _ | rfl)) ?_
 refine aa rfl (ap rfl eB rfl cg rfl (by first | exact Nat.zero_add _ | rfl)) ?_
 refine aa rfl (am eS rfl (aH rfl)) ?_
 refine aw (ak (dt (al (az (aa rfl (dd rfl rfl) (aa rfl (ax rfl) (aw (ak ?_))))))))
 refine ai rfl ?_ ?_
 ·intro c2
  exact absurd c2 (by decide)
 ·intro c2
  refine al (az (aa rfl (dd rfl rfl) (aa rfl (ax rfl) (aw (ak ?_)))))
  refine ai rfl ?_ ?_
  ·intro c4
   exact absurd c4 (by decide)
  ·intro c4
   refine al (az (aa rfl (dd rfl rfl) (aa rfl (ax rfl) (aw (ak ?_)))))
   refine ai rfl ?_ ?_
   ·intro c6
    exact absurd c6 (by decide)
   ·intro c6
    refine al (az (aa rfl (dd rfl rfl) (aa rfl (ax rfl) (aw (ak ?_)))))
    refine ai rfl ?_ ?_
    ·intro c8
     refine al (az (aa rfl (ag rfl) (aa rfl (i7 rfl rfl) ?_)))
     refine aa rfl (ax rfl) (aw (ak (bY (dO (cn (ah (.inl rfl) (.cons (ac rfl) .nil) ?_))))))
     exact ⟨_, ⟨rfl, rfl⟩, inferInstance⟩
    ·intro c8
     exact absurd rfl c8
section
theorem EQ (W0 : World) (hb : Nat) (cf : Cfg) (ps pb db qb gb : Nat) (a : Option Addr) (cap : Nat) (gbs : List Nat) (i g : Nat) (hg : gbs[i]? = some g) (hi4 : gbs.length ≤ 4) (rl : List Nat) (pc : Nat) (es : List Evt)  (h : GC rb vb pv tr cs) (hl : rl.length = 16) (hn : es.length < 4096) (hp : pc < 1000) (X : List HP) (hw : rl.getD 1 0 = 13) (hi : (i : Int) ≠ cf.gate) :
  ao Tryz.prog W0 13 [pV hb, .slice a gbs.length cap, .int .i64 i] (pt hb (co cf ps pb db qb gb) :: osl 50 1 (.slice a gbs.length cap) (gbs.map pV) :: pt g (bE cs) :: pt rb (bD rl pc) :: bO tr es :: X)
   (fun v B => v = .tuple #[.int .i64 ((4 : Nat) : Int), .int .i64 0] ∧ ∃ Y, Y = X ∧ B = pt hb (co cf ps pb db qb gb) :: osl 50 1 (.slice a gbs.length cap) (gbs.map pV) :: pt g (bE cs) :: pt rb (bD (cW rl 4 0) (pc + 4)) :: bO tr (es ++ [⟨2, 0, 13, 4, pc, cW rl 4 0⟩]) :: Y) :=
 p9 W0 hb cf ps pb db qb gb a cap gbs i g hg hi4 rl pc es h hl hn hp 13 4 hw (by decide) (by decide) (by decide) _ X (· = X) Tryz.call91 (fun cb lv R => EP W0 cb g i hb _ _ _ _ lv R)
  fun cb lg sp => iV (EF W0 _ cb g i 13 _ _ _ _ hb _ cf ps pb db qb gb hi) fun v B hv => ⟨_, ⟨hv.1, X, rfl, rfl⟩, by rw [hv.2]; exact ent_refl⟩
theorem ER (W0 : World) (hb : Nat) (cf : Cfg) (ps pb db qb gb : Nat) (a : Option Addr) (cap : Nat) (gbs : List Nat) (i g : Nat) (hg : gbs[i]? = some g) (hi4 : gbs.length ≤ 4) (rl : List Nat) (pc : Nat) (es : List Evt)  (h : GC rb vb pv tr cs) (hl : rl.length = 16) (hn : es.length < 4096) (hp : pc < 1000) (X : List HP) (hc : CfK W0 cf) (hw : rl.getD 1 0 = 8) (hr : rt cf = true) (ha : rl.getD 2 0 < 4294967296) (hs : eg cf i (rl.getD 2 0) ≠ 0) :
  ao Tryz.prog W0 13 [pV hb, .slice a gbs.length cap, .int .i64 i] (pt hb (co cf ps pb db qb gb) :: osl 50 1 (.slice a gbs.length cap) (gbs.map pV) :: pt g (bE cs) :: pt rb (bD rl pc) :: bO tr es :: X)
   (fun v B => v = .tuple #[.int .i64 (eg cf i (rl.getD 2 0) : Nat), .int .i64 0] ∧ ∃ Y, Y = X ∧ B = pt hb (co cf ps pb db qb gb) :: osl 50 1 (.slice a gbs.length cap) (gbs.map pV) :: pt g (bE cs) :: pt rb (bD (cW rl (eg cf i (rl.getD 2 0)) 0) (pc + 4)) :: bO tr (es ++ [⟨2, 0, 8, eg cf i (rl.getD 2 0), pc, cW rl (eg cf i (rl.getD 2 0)) 0⟩]) :: Y) :=
 p9 W0 hb cf ps pb db qb gb a cap gbs i g hg hi4 rl pc es h hl hn hp 8 (eg cf i (rl.getD 2 0)) hw (by decide) (by decide) (by unfold eg; split <;> (try split) <;> omega) _ X (· = X) Tryz.call89 (fun cb lv R => xq W0 cb g i hb _ _ _ _ lv R)
  fun cb lg sp => iV (EK _ hc (eQ hr).nn ha hs) fun v B hv => ⟨_, ⟨hv.1, X, rfl, rfl⟩, by rw [hv.2]; exact ent_refl⟩
theorem ES (W0 : World) (hb : Nat) (cf : Cfg) (ps pb db qb gb : Nat) (a : Option Addr) (cap : Nat) (gbs : List Nat) (i g : Nat) (hg : gbs[i]? = some g) (hi4 : gbs.length ≤ 4) (rl : List Nat) (pc : Nat) (es : List Evt)  (h : GC rb vb pv tr cs) (hl : rl.length = 16) (hn : es.length < 4096) (hp : pc < 1000) (X : List HP) (hc : CfK W0 cf) (hw : rl.getD 1 0 = 9) (hr : rt cf = true) (ha : rl.getD 2 0 < 4294967296) (R : List HP) (Z K : HP) (hX : (dq cf (rl.getD 2 0)).2 = i → rl.getD 2 0 < cf.nl.length → Z = aX [bn ps (List.replicate (aQ cf) bi), K]) :
  ao Tryz.prog W0 13 [pV hb, .slice a gbs.length cap, .int .i64 i] (pt hb (co cf ps pb db qb gb) :: osl 50 1 (.slice a gbs.length cap) (gbs.map pV) :: pt g (bE cs) :: pt rb (bD rl pc) :: bO tr es :: kH 5 Z :: R)
   (fun v B => v = .tuple #[.int .i64 (ig cf i (rl.getD 2 0) : Nat), .int .i64 0] ∧ ∃ Y, Y = kH 5 Z :: R ∧ B = pt hb (co cf ps pb db qb gb) :: osl 50 1 (.slice a gbs.length cap) (gbs.map pV) :: pt g (bE cs) :: pt rb (bD (cW rl (ig cf i (rl.getD 2 0)) 0) (pc + 4)) :: bO tr (es ++ [⟨2, 0, 9, ig cf i (rl.getD 2 0), pc, cW rl (ig cf i (rl.getD 2 0)) 0⟩]) :: Y) :=
 p9 W0 hb cf ps pb db qb gb a cap gbs i g hg hi4 rl pc es h hl hn hp 9 (ig cf i (rl.getD 2 0)) hw (by decide) (by decide) (by unfold ig; split <;> (try split) <;> omega) _ (kH 5 Z :: R) (· = kH 5 Z :: R) Tryz.call90 (fun cb lv R => EO W0 cb g i hb _ _ _ _ lv R)
  fun cb lg sp => by
   by_cases hz : rl.getD 2 0 < cf.nl.length ∧ (dq cf (rl.getD 2 0)).2 = i
   ·obtain rfl := hX hz.2 hz.1
    have he : ig cf i (rl.getD 2 0) = 3 := by rw [ig, if_pos hz.1, if_pos hz.2]
    rw [he]
    refine iX (B := kH 5 (aX [bn ps (List.replicate (aQ cf) bi), K]) :: pt cb (dr g i 9 (rl.getD 2 0) (rl.getD 3 0) (rl.getD 4 0) (rl.getD 5 0) hb (.slice (some ⟨lg, 0, none⟩) gbs.length cap)) :: pt hb (co cf ps pb db qb gb) :: pt g (bE cs) :: pt lg (aj (gbs.map pV ++ sp) 50) :: pt rb (bD rl pc) :: bO tr es :: R) inferInstance ?_
    refine iX hM ?_
    refine iX (B := pt cb (dr g i 9 (rl.getD 2 0) (rl.getD 3 0) (rl.getD 4 0) (rl.getD 5 0) hb (.slice (some ⟨lg, 0, none⟩) gbs.length cap)) :: pt hb (co cf ps pb db qb gb) :: pt g (bE cs) :: bn ps (List.replicate (aQ cf) bi) :: kH 6 K :: pt lg (aj (gbs.map pV ++ sp) 50) :: pt rb (bD rl pc) :: bO tr es :: R) ?_ ?_
    ·refine Ent.trans (B := bn ps (List.replicate (aQ cf) bi) :: kH 6 K :: pt cb (dr g i 9 (rl.getD 2 0) (rl.getD 3 0) (rl.getD 4 0) (rl.getD 5 0) hb (.slice (some ⟨lg, 0, none⟩) gbs.length cap)) :: pt hb (co cf ps pb db qb gb) :: pt g (bE cs) :: pt lg (aj (gbs.map pV ++ sp) 50) :: pt rb (bD rl pc) :: bO tr es :: R) ent_refl inferInstance
    refine iV (EM _ hc hr hz.1 hz.2 h) fun v B hv => ⟨_, ⟨hv.1, _, rfl, rfl⟩, ?_⟩
    rw [hv.2]
    refine Ent.trans (B := bn ps (List.replicate (aQ cf) bi) :: kH 6 K :: pt cb (dr g i 9 (rl.getD 2 0) (rl.getD 3 0) (rl.getD 4 0) (rl.getD 5 0) hb (.slice (some ⟨lg, 0, none⟩) gbs.length cap)) :: pt hb (co cf ps pb db qb gb) :: pt g (bE cs) :: pt lg (aj (gbs.map pV ++ sp) 50) :: pt rb (bD rl pc) :: bO tr es :: R) inferInstance ?_
    refine (fC (A := [bn ps (List.replicate (aQ cf) bi), K])).trans ?_
    exact (inferInstance : Ent (kH 5 (aX [bn ps (List.replicate (aQ cf) bi), K]) :: pt cb (dr g i 9 (rl.getD 2 0) (rl.getD 3 0) (rl.getD 4 0) (rl.getD 5 0) hb (.slice (some ⟨lg, 0, none⟩) gbs.length cap)) :: pt hb (co cf ps pb db qb gb) :: pt g (bE cs) :: pt lg (aj (gbs.map pV ++ sp) 50) :: pt rb (bD rl pc) :: bO tr es :: R) (pt cb (dr g i 9 (rl.getD 2 0) (rl.getD 3 0) (rl.getD 4 0) (rl.getD 5 0) hb (.slice (some ⟨lg, 0, none⟩) gbs.length cap)) :: pt hb (co cf ps pb db qb gb) :: pt lg (aj (gbs.map pV ++ sp) 50) :: pt g (bE cs) :: pt rb (bD rl pc) :: bO tr es :: kH 5 (aX [bn ps (List.replicate (aQ cf) bi), K]) :: R))
   ·exact iV (EL _ hc hr ha hz) fun v B hv => ⟨_, ⟨hv.1, _, rfl, rfl⟩, by rw [hv.2]; exact ent_refl⟩
theorem ET (W0 : World) (hb : Nat) (cf : Cfg) (ps pb db qb gb : Nat) (a : Option Addr) (cap : Nat) (gbs : List Nat) (i g : Nat) (hg : gbs[i]? = some g) (hi4 : gbs.length ≤ 4) (rl : List Nat) (pc : Nat) (es : List Evt)  (h : GC rb vb pv tr cs) (hl : rl.length = 16) (hn : es.length < 4096) (hp : pc < 1000) (X : List HP) (hc : CfK W0 cf) (hw : rl.getD 1 0 = 8) (hr : rt cf = true) (ha : rl.getD 2 0 < cf.nl.length) (hb4 : rl.getD 3 0 < 4294967296) (hx : (dq cf (rl.getD 2 0)).1 = i) {j g2 : Nat} (hj : (dq cf (rl.getD 2 0)).2 = j) (hg2 : gbs[j]? = some g2) {rb2 vb2 pv2 tr2 : Nat} {cs2 : List Value} (h' : GC rb2 vb2 pv2 tr2 cs2) {fr : List bJ} (hF : dJ fr) (hfl : fr.length = aQ cf) :
  ao Tryz.prog W0 13 [pV hb, .slice a gbs.length cap, .int .i64 i] (pt hb (co cf ps pb db qb gb) :: osl 50 1 (.slice a gbs.length cap) (gbs.map pV) :: pt g (bE cs) :: pt rb (bD rl pc) :: bO tr es :: bn ps fr :: pt g2 (bE cs2) :: pt vb2 ib :: X)
   (fun v B => v = .tuple #[.int .i64 ((0 : Nat) : Int), .int .i64 0] ∧ ∃ Y, (∃ Z, Y = kH 5 Z :: X) ∧ B = pt hb (co cf ps pb db qb gb) :: osl 50 1 (.slice a gbs.length cap) (gbs.map pV) :: pt g (bE cs) :: pt rb (bD (cW rl 0 0) (pc + 4)) :: bO tr (es ++ [⟨2, 0, 8, 0, pc, cW rl 0 0⟩]) :: Y) :=
 p9 W0 hb cf ps pb db qb gb a cap gbs i g hg hi4 rl pc es h hl hn hp 8 0 hw (by decide) (by decide) (by decide) _ (bn ps fr :: pt g2 (bE cs2) :: pt vb2 ib :: X) (fun Y => ∃ Z, Y = kH 5 Z :: X) Tryz.call89 (fun cb lv R => xq W0 cb g i hb _ _ _ _ lv R)
  fun cb lg sp => by
   refine iX (B := pt cb (dr g i 8 (rl.getD 2 0) (rl.getD 3 0) (rl.getD 4 0) (rl.getD 5 0) hb (.slice (some ⟨lg, 0, none⟩) gbs.length cap)) :: pt hb (co cf ps pb db qb gb) :: pt lg (aj (gbs.map pV ++ sp) 50) :: bn ps fr :: pt g2 (bE cs2) :: pt vb2 ib :: pt g (bE cs) :: pt rb (bD rl pc) :: bO tr es :: X) inferInstance ?_
   refine iV (EN lg sp gbs cap hc hr ha hx hj hg2 hb4 hi4 h' hF hfl) fun v B hv => ?_
   obtain ⟨hv, Y, rfl⟩ := hv
   refine ⟨_, ⟨hv, kH 5 (aX Y) :: X, ⟨_, rfl⟩, rfl⟩, ?_⟩
   refine Ent.cons (Ent.cons (Ent.cons ?_))
   refine (Ent.ofPerm (List.perm_append_comm_assoc Y [pt g (bE cs), pt rb (bD rl pc), bO tr es] X)).trans ?_
   exact Ent.cons (Ent.cons (Ent.cons (fC (A := Y) (R := X))))
theorem EU {α : Type} {L : List α} {i j : Nat} (h : j ≠ i) (hj : j < L.length) : ∃ k, ∃ hk : k < (L.eraseIdx i).length, (L.eraseIdx i)[k] = L[j] := by
 rcases Nat.lt_or_ge j i with q | q
 ·have e : (L.eraseIdx i)[j]? = L[j]? := by rw [List.getElem?_eraseIdx, if_pos q]
  rw [List.getElem?_eq_getElem hj] at e
  obtain ⟨k1, k2⟩ := List.getElem?_eq_some_iff.1 e
  exact ⟨j, k1, k2⟩
 ·have e : (L.eraseIdx i)[j - 1]? = L[j]? := by rw [List.getElem?_eraseIdx, if_neg (by omega), show j - 1 + 1 = j by omega]
  rw [List.getElem?_eq_getElem hj] at e
  obtain ⟨k1, k2⟩ := List.getElem?_eq_some_iff.1 e
  exact ⟨j - 1, k1, k2⟩
abbrev gB (gbs : List Nat) (i : Nat) : List HP := (gbs.map fun g => eZ g fm).eraseIdx i
theorem EV (W0 : World) (hb : Nat) (cf : Cfg) (ps pb db qb gb : Nat) (a : Option Addr) (cap : Nat) (gbs : List Nat) (i g : Nat) (hg : gbs[i]? = some g) (hi4 : gbs.length ≤ 4) (rl : List Nat) (pc : Nat) (es : List Evt)  (h : GC rb vb pv tr cs) (hl : rl.length = 16) (hn : es.length < 4096) (hp : pc < 1000) (X : List HP) (hc : CfK W0 cf) (hw : rl.getD 1 0 = 8) (hr : rt cf = true) (ha : rl.getD 2 0 < 4294967296) (hb4 : rl.getD 3 0 < 4294967296) (hgl : gbs.length = cf.gl.length) :
  ao Tryz.prog W0 13 [pV hb, .slice a gbs.length cap, .int .i64 i] (pt hb (co cf ps pb db qb gb) :: osl 50 1 (.slice a gbs.length cap) (gbs.map pV) :: pt g (bE cs) :: pt rb (bD rl pc) :: bO tr es :: kH 5 (aX [bn ps (List.replicate (aQ cf) bi), kH 3 (aX (gB gbs i))]) :: X)
   (fun v B => v = .tuple #[.int .i64 (eg cf i (rl.getD 2 0) : Nat), .int .i64 0] ∧ ∃ Z, (eg cf i (rl.getD 2 0) ≠ 0 → Z = aX [bn ps (List.replicate (aQ cf) bi), kH 3 (aX (gB gbs i))]) ∧ B = pt hb (co cf ps pb db qb gb) :: osl 50 1 (.slice a gbs.length cap) (gbs.map pV) :: pt g (bE cs) :: pt rb (bD (cW rl (eg cf i (rl.getD 2 0)) 0) (pc + 4)) :: bO tr (es ++ [⟨2, 0, 8, eg cf i (rl.getD 2 0), pc, cW rl (eg cf i (rl.getD 2 0)) 0⟩]) :: kH 5 Z :: X) := by
 by_cases hs : eg cf i (rl.getD 2 0) = 0
 ·rw [hs]
  have hl' : rl.getD 2 0 < cf.nl.length := by
   rcases Nat.lt_or_ge (rl.getD 2 0) cf.nl.length with q | q
   ·exact q
   ·rw [eg, if_neg (by omega)] at hs; cases hs
  have hx : (dq cf (rl.getD 2 0)).1 = i := by
   rw [eg, if_pos hl'] at hs
   by_cases q : (dq cf (rl.getD 2 0)).1 = i
   ·exact q
   ·rw [if_neg q] at hs; cases hs
  have hri : fR cf (dq cf (rl.getD 2 0)) = false := by
   obtain ⟨_, _, _, _, _, k, _⟩ := jG hr
   simp only [eI, Bool.or_eq_false_iff] at k
   exact lm k.2 hl'
  simp only [fR, Bool.not_eq_false', Bool.and_eq_true, decide_eq_true_eq] at hri
  obtain ⟨⟨⟨_, h2⟩, h3⟩, _⟩ := hri
  simp only [dK, decide_eq_true_eq] at h2
  obtain ⟨j, hj⟩ : ∃ j : Nat, (dq cf (rl.getD 2 0)).2 = j := ⟨(dq cf (rl.getD 2 0)).2.toNat, by omega⟩
  have hjl : j < gbs.length := by omega
  have hji : j ≠ i := by omega
  obtain ⟨k, hk, he⟩ := EU (L := gbs.map fun g => eZ g fm) hji (by rw [List.length_map]; exact hjl)
  rw [List.getElem_map] at he
  refine iX (B := kH 5 (aX [bn ps (List.replicate (aQ cf) bi), kH 3 (aX (gB gbs i))]) :: pt hb (co cf ps pb db qb gb) :: osl 50 1 (.slice a gbs.length cap) (gbs.map pV) :: pt g (bE cs) :: pt rb (bD rl pc) :: bO tr es :: X) inferInstance ?_
  refine iX (hM (A := [bn ps (List.replicate (aQ cf) bi), kH 3 (aX (gB gbs i))])) ?_
  have e2 := qX (L := gB gbs i) (R := pt hb (co cf ps pb db qb gb) :: osl 50 1 (.slice a gbs.length cap) (gbs.map pV) :: pt g (bE cs) :: pt rb (bD rl pc) :: bO tr es :: X) hk
  rw [he] at e2
  refine iX (B := eZ gbs[j] fm :: bn ps (List.replicate (aQ cf) bi) :: kH 3 (aX ((gB gbs i).eraseIdx k)) :: pt hb (co cf ps pb db qb gb) :: osl 50 1 (.slice a gbs.length cap) (gbs.map pV) :: pt g (bE cs) :: pt rb (bD rl pc) :: bO tr es :: X) ?_ ?_
  ·exact (Ent.cons e2).trans (Ent.ofPerm (List.Perm.swap _ _ _))
  refine md fun C hC => ?_
  obtain ⟨cs2, rb2, vb2, pv2, tr2, o, hG2, _, ho, rfl⟩ := hC
  obtain rfl := ho rfl
  refine iX (B := pt hb (co cf ps pb db qb gb) :: osl 50 1 (.slice a gbs.length cap) (gbs.map pV) :: pt g (bE cs) :: pt rb (bD rl pc) :: bO tr es :: bn ps (List.replicate (aQ cf) bi) :: pt gbs[j] (bE cs2) :: pt vb2 ib :: X) ?_ ?_
  ·simp only [List.cons_append, List.nil_append]
   refine Ent.trans (B := pt hb (co cf ps pb db qb gb) :: bn ps (List.replicate (aQ cf) bi) :: pt gbs[j] (bE cs2) :: pt vb2 ib :: osl 50 1 (.slice a gbs.length cap) (gbs.map pV) :: pt g (bE cs) :: pt rb (bD rl pc) :: bO tr es :: X) inferInstance ?_
   exact Ent.cons (Ent.ofPerm (List.perm_append_comm_assoc [_, _, _] [_, _, _, _] X))
  refine iV (ET W0 hb cf ps pb db qb gb a cap gbs i g hg hi4 rl pc es h hl hn hp X hc hw hr hl' hb4 hx hj (List.getElem?_eq_getElem hjl) hG2 (dJ.new _) (by simp)) fun v B hv => ?_
  obtain ⟨hv, Y, ⟨Z, rfl⟩, rfl⟩ := hv
  exact ⟨_, ⟨hv, Z, fun q => absurd rfl q, rfl⟩, ent_refl⟩
 ·refine iV (ER W0 hb cf ps pb db qb gb a cap gbs i g hg hi4 rl pc es h hl hn hp _ hc hw hr ha hs) fun v B hv => ?_
  obtain ⟨hv, Y, rfl, rfl⟩ := hv
  exact ⟨_, ⟨hv, _, fun _ => rfl, rfl⟩, ent_refl⟩
end
end
def Zo (o : Obj) (p : Option Addr) (A : List HP) : Prop := p = none ∨ ∃ b, p = some ⟨b, 0, none⟩ ∧ Ent A [pt b o]
theorem Zo.cons {o : Obj} {p : Option Addr} {A : List HP} {c : HP} (h : Zo o p A) : Zo o p (c :: A) := by
 rcases h with h | ⟨b, h1, h2⟩
 ·exact .inl h
 ·exact .inr ⟨b, h1, Ent.drop.trans h2⟩
abbrev xt (c : Cfg) (hb ps pb db qb gb : Nat) (a : Option Addr) (cap g0 g1 : Nat) (R : List HP) : List HP := pt hb (aj (eR c ps pb db qb gb) 119) :: osl 50 1 (.slice a [g0, g1].length cap) ([g0, g1].map pV) :: eZ g0 fm :: eZ g1 fm :: R
theorem EW (W0 : World) (b1 b2 b3 b4 b5 : Nat) (R : List HP) :
  ao Tryz.prog W0 11 [.agg (bF (ie b1 b2 b3 b4 b5)).toArray, .slice none 0 0, .slice none 0 0] (sy b1 b2 b3 b4 b5 R)
   (fun v B => ∃ hb ps pb db qb gb wb a cap a2 n2 cap2 g0 g1, v = .tuple #[pV hb, .slice a [g0, g1].length cap, pV wb, .slice a2 n2 cap2, .bool true] ∧ B = xt (ie b1 b2 b3 b4 b5) hb ps pb db qb gb a cap g0 g1 R) := by
 refine fun w hO => (Bi (fun W hW => xf W [] (ie b1 b2 b3 b4 b5) (EE hW) (EC b1 b2 b3 b4 b5)) w hO).mono ?_
 rintro e w' ⟨v, B, rfl, ⟨C, ⟨hb, ps, pb, db, qb, gb, wb, a, cap, a2, n2, cap2, gbs, hl, rfl, rfl⟩, rfl⟩, hO'⟩
 obtain ⟨g0, g1, rfl⟩ : ∃ g0 g1, gbs = [g0, g1] := by
  match gbs, hl with
  | [x, y], _ => exact ⟨x, y, rfl⟩
 refine ⟨_, _, rfl, ⟨hb, ps, pb, db, qb, gb, wb, a, cap, a2, n2, cap2, g0, g1, rfl, rfl⟩, hO'.ent ?_⟩
 refine Ent.trans (B := kH 2 (aX ([g0, g1].map fun g => eZ g fm)) :: pt hb (aj (eR (ie b1 b2 b3 b4 b5) ps pb db qb gb) 119) :: osl 50 1 (.slice a [g0, g1].length cap) ([g0, g1].map pV) :: R) ?_ ?_
 ·simp only [List.cons_append, List.nil_append]
  exact inferInstance
 ·refine Ent.trans (hM (A := [eZ g0 fm, eZ g1 fm])) ?_
  exact (inferInstance : Ent (eZ g0 fm :: eZ g1 fm :: pt hb (aj (eR (ie b1 b2 b3 b4 b5) ps pb db qb gb) 119) :: osl 50 1 (.slice a [g0, g1].length cap) ([g0, g1].map pV) :: R) (xt (ie b1 b2 b3 b4 b5) hb ps pb db qb gb a cap g0 g1 R))
theorem EX : dD (List.replicate 16 0) 0 [0, 0, 0, 0] 4 = List.replicate 16 0 := by decide
theorem mT (W0 : World) (R : List HP) : ao Tryz.prog W0 10 [] R (fun v B => v = .bool true ∧ B = R) := by
 refine d5 Tryz.func10 Tryz.ntmps10 rfl rfl ?_
 refine al (az (aa rfl (ax rfl) (aw (ak (al (az (ae rfl (aF Tryz.call23 rfl (ED W0 _)) ?_)))))))
 rintro _ B_ ⟨b1, b2, b3, b4, b5, rfl, hB_⟩
 obtain rfl := hB_.symm
 refine ae rfl (aF yF rfl (EW W0 b1 b2 b3 b4 b5 _)) ?_
 rintro _ B_ ⟨hb, ps, pb, db, qb, gb, wb, a, cap, a2, n2, cap2, g0, g1, rfl, hB_⟩
 obtain rfl := hB_.symm
 refine aa rfl (ag rfl) (aa rfl (bZ rfl rfl) (aa rfl (bZ rfl rfl) (aa rfl (bZ rfl rfl) (aa rfl (bZ rfl rfl) (aa rfl (bZ rfl rfl) (aa rfl (ax rfl) (aa rfl (ax rfl) (aa rfl (ax rfl) (aa rfl (ax rfl) (aa rfl (ax rfl) (aw (ak (al (al (az (aa rfl (ag rfl) (aa rfl (fM rfl) (aa rfl (ag rfl) ?_))))))))))))))))))
 refine aZ rfl rfl rfl ?_ ?_
 ·intro g2_3
  exact absurd g2_3 (by decide)
 ·intro g2_3
  refine aa rfl (ag rfl) (aY rfl rfl (aa rfl (jT sT rfl rfl) (aa rfl (d4 rfl rfl) (aa rfl (ag rfl) ?_))))
  refine aZ rfl rfl rfl ?_ ?_
  ·intro g2_7
   first | exact absurd g2_7 (by decide) | (cases g2_7)
  ·intro g2_7
   refine aa rfl (ag rfl) (aY rfl rfl (aa rfl (dU ff rfl) (aY rfl rfl (aa rfl (du rfl rfl) (aa rfl (d4 rfl rfl) (aw (ak ?_)))))))
   refine ai rfl ?_ ?_
   ·intro c2
    first | exact absurd c2 (by decide) | (simp at c2)
   ·intro c2
    refine cy (ak (al ?_))
    refine xe (gb := g1) fun cs rb vb pv tr o hG hrl _ => ?_
    refine eN (B := pt g1 (bE cs) :: pt rb (bD (List.replicate 16 0) 0) :: bO tr [] :: pt hb (aj (eR (ie b1 b2 b3 b4 b5) ps pb db qb gb) 119) :: osl 50 1 (.slice a [g0, g1].length cap) ([g0, g1].map pV) :: R) (Ent.cons (Ent.cons (Ent.cons inferInstance))) ?_
    refine dP (r := osl 50 1) (b := .slice a [g0, g1].length cap) (gr (fun h1 h2 => by cases h2) fun lg nn c2 sp h1 h2 h3 h4 h5 => ?_)
    cases h1
    refine az (aa rfl (ag rfl) ?_)
    refine aa rfl (bM ff fg rfl rfl (i := 1) rfl (show 1 < 2 by decide) (by first | exact Nat.zero_add _ | rfl)) ?_
    refine aa rfl (am gm rfl (aH rfl)) ?_
    refine aa rfl (mt hJ cg lV rfl) ?_
    refine ae rfl (eE tA rfl (p8 W0 _ g1 (List.replicate 16 0) 0 0 [0, 0, 0, 0] rfl hG rfl)) ?_
    rintro _ B_ ⟨rfl, hB_⟩
    obtain rfl := hB_.symm
    rw [EX]
    refine aw (ak (al ?_))
    refine eN (B := osl 50 1 (.slice (some ⟨lg, 0, none⟩) [g0, g1].length cap) ([g0, g1].map pV) :: pt hb (aj (eR (ie b1 b2 b3 b4 b5) ps pb db qb gb) 119) :: pt g1 (bE cs) :: pt rb (bD (List.replicate 16 0) 0) :: bO tr [] :: R) ?_ ?_
    ·refine Ent.trans (B := pt lg (aj ([g0, g1].map pV ++ sp) 50) :: pt hb (aj (eR (ie b1 b2 b3 b4 b5) ps pb db qb gb) 119) :: pt g1 (bE cs) :: pt rb (bD (List.replicate 16 0) 0) :: bO tr [] :: R) inferInstance ?_
     exact eP h2 h3 rfl h5
    refine az (aa rfl (ag rfl) (aa rfl (ag rfl) ?_))
    refine ae rfl (qH tB rfl (EB W0 _ hb (ie b1 b2 b3 b4 b5) ps pb db qb gb (some ⟨lg, 0, none⟩) cap [g0, g1] 1 g1 rfl (show 2 ≤ 4 by decide) (List.replicate 16 0) 0 [] hG rfl (by decide) (by decide) rfl)) ?_
    rintro _ B_ ⟨rfl, hB_⟩
    obtain rfl := hB_.symm
    refine aa rfl (ag rfl) (aa rfl (bZ rfl rfl) (aa rfl (bZ rfl rfl) (aa rfl (ax rfl) (aa rfl (ax rfl) (aw (ak (al ?_)))))))
    refine dP (r := osl 50 1) (b := .slice (some ⟨lg, 0, none⟩) [g0, g1].length cap) (gr (fun h1 h2 => by cases h2) fun lg nn c2 sp h1 h2 h3 h4 h5 => ?_)
    cases h1
    refine az (aa rfl (ag rfl) (aa rfl (dd rfl rfl) (aa rfl (ag rfl) ?_)))
    refine bX rfl rfl rfl ?_ ?_
    ·intro g6_3
     refine aa rfl (ag rfl) (aY rfl rfl (aa rfl (dd rfl rfl) (aa rfl (cV rfl rfl) (aa rfl (ag rfl) ?_))))
     refine bX rfl rfl rfl ?_ ?_
     ·intro g6_7
      refine aa rfl (ag rfl) (aY rfl rfl ?_)
      refine aa rfl (bM ff fg rfl rfl (i := 1) rfl (show 1 < 2 by decide) (by first | exact Nat.zero_add _ | rfl)) ?_
      refine aY rfl rfl (aa rfl (am gm rfl (aH rfl)) ?_)
      refine aY rfl rfl (ae rfl (eE yz rfl (sq W0 _ g1 (cW (List.replicate 16 0) 0 1) 4 hG rfl)) ?_)
      rintro _ B_ ⟨rfl, hB_⟩
      obtain rfl := hB_.symm
      refine aY rfl rfl ?_
      refine aa rfl (uT nr cg eS rfl rfl rfl (by decide) rfl) ?_
      refine aY rfl rfl (aa rfl (dd rfl rfl) (aa rfl (cV rfl rfl) (aa rfl (ag rfl) ?_)))
      refine bX rfl rfl rfl ?_ ?_
      ·intro g6_15
       refine aa rfl (ag rfl) (aY rfl rfl ?_)
       refine aa rfl (bM ff fg rfl rfl (i := 1) rfl (show 1 < 2 by decide) (by first | exact Nat.zero_add _ | rfl)) ?_
       refine aY rfl rfl (aa rfl (am gm rfl (aH rfl)) ?_)
       refine aY rfl rfl (ae rfl (aM Tryz.call24 rfl (E6 W0 _ g1 hG)) ?_)
       rintro _ B_ ⟨rfl, hB_⟩
       obtain rfl := hB_.symm
       refine aY rfl rfl (ae rfl (aM Tryz.call25 rfl (D4 W0 _ tr _)) ?_)
       rintro _ B_ ⟨rfl, hB_⟩
       obtain rfl := hB_.symm
       refine aY rfl rfl (aa rfl (dd rfl rfl) (aa rfl (cV rfl rfl) (aa rfl (ax rfl) (aw (ak (bY (ah (.inl rfl) (.cons (ac rfl) .nil) ?_)))))))
       exact ⟨_, ⟨rfl, rfl⟩, inferInstance⟩
      ·intro g6_15
       exact absurd (by decide) g6_15
     ·intro g6_7
      exact absurd (by decide) g6_7
    ·intro g6_3
     exact absurd (by decide) g6_3
end
end Go.Proofs.YtoedafbckfgkjaaGreat
