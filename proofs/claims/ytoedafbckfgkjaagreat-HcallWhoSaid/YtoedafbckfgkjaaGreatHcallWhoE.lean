/-
  Part 5 of the proof of HcallWho: rules, and walks of functions. Conditions: none.
-/
import Derived.Test.YtoedafbckfgkjaaGreatHcallWhoD
namespace Go.Proofs.YtoedafbckfgkjaaGreat
set_option linter.unusedSimpArgs false
set_option linter.unusedVariables false
set_option maxRecDepth 20000
set_option linter.defProp false
set_option synthInstance.maxSize 8192
set_option synthInstance.maxHeartbeats 2000000
section
open Go.RowKit
theorem EY {l : List Nat} : l.map pV = l.flatMap fun g => [pV g] := by
 induction l with
 | nil => rfl
 | cons x t ih => rw [List.map_cons, List.flatMap_cons, ih]; rfl
theorem xu {rl : List Nat} {n x0 x1 x2 x3 : Nat} (h : rl.length = 16) : (dD rl n [x0, x1, x2, x3] 4).getD 1 0 = n ∧ (dD rl n [x0, x1, x2, x3] 4).getD 2 0 = x0 ∧ (dD rl n [x0, x1, x2, x3] 4).getD 3 0 = x1 := by
 obtain ⟨a0, a1, a2, a3, a4, a5, a6, a7, a8, a9, a10, a11, a12, a13, a14, a15, rfl⟩ := xi h
 exact ⟨rfl, rfl, rfl⟩
theorem EZ {c : Cfg} (hr : rt c = true) {r : Nat} (hl : r < c.nl.length) : (dq c r).1 ≠ (dq c r).2 := by
 obtain ⟨_, _, _, _, _, k, _⟩ := jG hr
 simp only [eI, Bool.or_eq_false_iff] at k
 have hri : fR c (dq c r) = false := lm k.2 hl
 simp only [fR, Bool.not_eq_false', Bool.and_eq_true, decide_eq_true_eq] at hri
 exact hri.1.2
theorem F0 {c : Cfg} (hr : rt c = true) {r k : Nat} (hl : r < c.nl.length) (hx : (dq c r).2 = k) : eg c k r ≠ 0 := by
 have := EZ hr hl
 rw [eg, if_pos hl, if_neg (by omega)]; decide
theorem F1 {W0 : World} {N : FSz} {K : Act → World → Prop} {e : bq} {A R : List HP} {E sz n c : Nat} {a : Option Addr} {ys : List Value} {α : Type} [h : Tk (osl E sz) (.slice a n c) A ys R] (f : α → List Value) (xs : List α) (hf : ∀ x, (f x).length = sz) (hz : 0 < sz) (hy : ys = xs.flatMap f)
  (k : bT (bu W0 [osl E sz (.slice a n c) ys]) a sz f xs → aE W0 N K e A) : aE W0 N K e A := fun b w hF hO =>
 k (uL (E := E) (n := n) (c := c) (A := [osl E sz (.slice a n c) ys]) (R := []) hf hz hy (hO.ent ((Ent.ofPerm h.perm).trans (Ent.cons inferInstance)))) b w hF hO
theorem xv (W0 : World) (R : List HP) (c : Cfg) : ao Tryz.prog W0 9 [.agg (bF c).toArray] R (fun v B => (∃ b, v = .bool b) ∧ B = R) := by
 refine aD Tryz.func9 Tryz.ntmps9 rfl rfl ?_
 refine au 2 ?_
 refine ae rfl (bw rfl) ?_
 rintro _ _ ⟨b1, rfl, rfl⟩
 refine au 10 ?_
 refine bX rfl rfl rfl ?_ ?_
 ·intro g1_5
  refine au 9 ?_
  refine bX rfl rfl rfl ?_ ?_
  ·intro g1_11
   refine au 9 ?_
   refine bX rfl rfl rfl ?_ ?_
   ·intro g1_17
    refine au 9 ?_
    refine bX rfl rfl rfl ?_ ?_
    ·intro g1_23
     refine au 12 ?_
     refine ah (.inl rfl) (.cons (ac rfl) .nil) ?_
     exact ⟨_, ⟨⟨_, rfl⟩, rfl⟩, inferInstance⟩
    ·intro g1_23
     refine au 8 ?_
     refine ah (.inl rfl) (.cons (ac rfl) .nil) ?_
     exact ⟨_, ⟨⟨_, rfl⟩, rfl⟩, inferInstance⟩
   ·intro g1_17
    refine au 14 ?_
    refine ah (.inl rfl) (.cons (ac rfl) .nil) ?_
    exact ⟨_, ⟨⟨_, rfl⟩, rfl⟩, inferInstance⟩
  ·intro g1_11
   refine au 20 ?_
   refine ah (.inl rfl) (.cons (ac rfl) .nil) ?_
   exact ⟨_, ⟨⟨_, rfl⟩, rfl⟩, inferInstance⟩
 ·intro g1_5
  refine au 26 ?_
  refine ah (.inl rfl) (.cons (ac rfl) .nil) ?_
  exact ⟨_, ⟨⟨_, rfl⟩, rfl⟩, inferInstance⟩
theorem F2 (W0 : World) (c : Cfg) (h : CfK W0 c) (hr : rt c = false) (i ring x0 x1 x2 x3 : Nat) :
  ao Tryz.prog W0 4 [.agg (bF c).toArray, .int .u8 i, .int .u8 ring, .agg #[wV x0, wV x1, wV x2, wV x3]] [] (fun v B => v = .bool true ∧ B = []) := by
 refine aD tC Tryz.ntmps4 rfl rfl ?_
 refine au 2 ?_
 refine ae rfl (bw rfl) ?_
 rintro _ _ ⟨b1, rfl, rfl⟩
 refine ae rfl (bw rfl) ?_
 rintro _ _ ⟨b2, rfl, rfl⟩
 refine au 6 ?_
 refine ae rfl (cd lV) ?_
 rintro _ _ ⟨b3, rfl, rfl⟩
 refine b0 (bS eh rfl rfl rfl rfl rfl) ?_
 rintro _ _ rfl
 refine au 6 ?_
 refine ae rfl (aF Tryz.call9 rfl (xv W0 _ c)) ?_
 rintro _ B_ ⟨⟨s, rfl⟩, hB_⟩
 obtain rfl := hB_.symm
 refine au 3 ?_
 refine ai rfl ?_ ?_
 ·intro c2
  refine au 2 ?_
  refine ae rfl (aF pL rfl (mT W0 _)) ?_
  rintro _ B_ ⟨rfl, hB_⟩
  obtain rfl := hB_.symm
  refine au 5 ?_
  refine ah (.inl rfl) (.cons (ac rfl) .nil) ?_
  exact ⟨_, ⟨rfl, rfl⟩, inferInstance⟩
 ·intro c2
  refine au 5 ?_
  refine ae rfl (aF yF rfl (E5 W0 _ c h hr)) ?_
  rintro _ B_ ⟨rfl, hB_⟩
  obtain rfl := hB_.symm
  refine au 20 ?_
  refine ai rfl ?_ ?_
  ·intro c5
   exact absurd rfl c5
  ·intro c5
   refine au 8 ?_
   refine aZ rfl rfl rfl ?_ ?_
   ·intro g7_3
    refine au 8 ?_
    refine ae rfl (aF pL rfl (mT W0 _)) ?_
    rintro _ B_ ⟨rfl, hB_⟩
    obtain rfl := hB_.symm
    refine au 5 ?_
    refine ah (.inl rfl) (.cons (ac rfl) .nil) ?_
    exact ⟨_, ⟨rfl, rfl⟩, inferInstance⟩
   ·intro g7_3
    exact absurd rfl g7_3
theorem F3 (W0 : World) (c : Cfg) (h : CfK W0 c) (hr : rt c = true) (i ring x0 x1 x2 x3 : Nat) (hi : i < 256) (h1 : x1 < 4294967296) (hring : ring < 256) :
  ao Tryz.prog W0 4 [.agg (bF c).toArray, .int .u8 i, .int .u8 ring, .agg #[wV x0, wV x1, wV x2, wV x3]] [] (fun v B => v = .bool true ∧ B = []) := by
 have hR := eQ hr
 have hg4 := hR.g4
 have hg1 := hR.g1
 obtain ⟨r, hrr⟩ : ∃ r, ring % 4 = r := ⟨_, rfl⟩
 have hr4 : r < 4 := by omega
 refine d5 tC Tryz.ntmps4 rfl rfl ?_
 refine al (az (ae rfl (bw rfl) ?_))
 rintro _ _ ⟨b4, rfl, rfl⟩
 refine ae rfl (bw rfl) ?_
 rintro _ _ ⟨b7, rfl, rfl⟩
 refine aa rfl (ax rfl) (aw (ak (al (az (aa rfl (iS jN eh rfl rfl) ?_)))))
 refine ae rfl (cd lV) ?_
 rintro _ _ ⟨b9, rfl, rfl⟩
 refine b0 (bS eh rfl rfl rfl rfl rfl) ?_
 rintro _ _ rfl
 refine aw (ak (al (al (az (aa rfl (iS gC dM rfl rfl) ?_)))))
 refine ae rfl (aF Tryz.call9 rfl (xv W0 _ c)) ?_
 rintro _ B_ ⟨⟨s, rfl⟩, hB_⟩
 obtain rfl := hB_.symm
 refine aa rfl (fM rfl) (aw (ak ?_))
 refine ai rfl ?_ ?_
 ·intro c2
  refine al (az (ae rfl (aF pL rfl (mT W0 _)) ?_))
  rintro _ B_ ⟨rfl, hB_⟩
  obtain rfl := hB_.symm
  refine aa rfl (ax rfl) (aw (ak (bY (cn (ah (.inl rfl) (.cons (ac rfl) .nil) ?_)))))
  exact ⟨_, ⟨rfl, rfl⟩, inferInstance⟩
 ·intro c2
  refine cy (ak (al (az (aa rfl (iS gC dM rfl rfl) ?_))))
  refine ae rfl (aF yF rfl (xf W0 _ c h hr)) ?_
  rintro _ B_ ⟨hb, ps, pb, db, qb, gb, wb, a, cap, a2, n2, cap2, gbs, hgl, rfl, hB_⟩
  obtain rfl := hB_.symm
  refine aa rfl (ag rfl) (aa rfl (bZ rfl rfl) (aa rfl (bZ rfl rfl) (aa rfl (bZ rfl rfl) (aa rfl (bZ rfl rfl) (aa rfl (bZ rfl rfl) (aa rfl (ax rfl) (aa rfl (ax rfl) (aa rfl (ax rfl) (aa rfl (ax rfl) (aa rfl (ax rfl) (aw (ak (al (al (az (aa rfl (ag rfl) (aa rfl (fM rfl) (aw (ak ?_)))))))))))))))))))
  refine ai rfl ?_ ?_
  ·intro c5
   exact absurd c5 (by decide)
  ·intro c5
   refine cy (ak (al (al (az (aa rfl (ag rfl) (aa rfl (jT sT rfl rfl) (aa rfl (ag rfl) ?_)))))))
   refine aZ rfl rfl rfl ?_ ?_
   ·intro g7_3
    first | exact absurd g7_3 (by decide) | (cases g7_3)
   ·intro g7_3
    refine aa rfl (ag rfl) (aY rfl rfl (aa rfl (dU ff rfl) (aY rfl rfl (aa rfl (dd rfl rfl) (aa rfl (d4 rfl rfl) (aw (ak ?_)))))))
    refine ai rfl ?_ ?_
    ·intro c7
     first | (simp at c7; omega) | omega
    ·intro c7
     refine cy (ak (al ?_))
     obtain ⟨k, hk⟩ : ∃ k, i % gbs.length = k := ⟨_, rfl⟩
     have hkl : k < gbs.length := by rw [← hk]; exact Nat.mod_lt _ (by omega)
     obtain ⟨g, hg⟩ : ∃ g, gbs[k]? = some g := ⟨_, List.getElem?_eq_getElem hkl⟩
     have hgk : gbs[k] = g := (List.getElem?_eq_some_iff.1 hg).2
     refine F1 (a := a) (n := gbs.length) (c := cap) (E := 50) (fun g => [pV g]) gbs (fun _ => rfl) (by decide) EY fun hs => ?_
     obtain ⟨lg, lo, hla, hcl⟩ := hs.at_ hkl
     rw [hgk] at hcl
     refine eN (B := kH 2 (aX (gbs.map fun g => eZ g fm)) :: pt hb (co c ps pb db qb gb) :: pt gb (gU c.cats c.gate c.quota) :: bn ps (List.replicate (aQ c) bi) :: osl 50 1 (.slice a gbs.length cap) (gbs.map pV) :: pt b4 (aj (bF c) 29) :: pt b9 (aj [wV x0, wV x1, wV x2, wV x3] 43) :: []) inferInstance ?_
     refine eN (qX (i := k) (by rw [List.length_map]; exact hkl)) ?_
     rw [List.getElem_map, hgk]
     refine xe (gb := g) fun cs rb vb pv tr o hG hrl _ => ?_
     refine eN (B := pt hb (co c ps pb db qb gb) :: osl 50 1 (.slice a gbs.length cap) (gbs.map pV) :: pt g (bE cs) :: pt rb (bD (List.replicate 16 0) 0) :: bO tr [] :: bn ps (List.replicate (aQ c) bi) :: kH 3 (aX (gB gbs k)) :: pt gb (gU c.cats c.gate c.quota) :: pt b4 (aj (bF c) 29) :: pt b9 (aj [wV x0, wV x1, wV x2, wV x3] 43) :: []) ?_ ?_
     ·refine Ent.trans (B := pt g (bE cs) :: pt rb (bD (List.replicate 16 0) 0) :: bO tr [] :: pt vb o :: kH 3 (aX (gB gbs k)) :: pt hb (co c ps pb db qb gb) :: pt gb (gU c.cats c.gate c.quota) :: bn ps (List.replicate (aQ c) bi) :: osl 50 1 (.slice a gbs.length cap) (gbs.map pV) :: pt b4 (aj (bF c) 29) :: pt b9 (aj [wV x0, wV x1, wV x2, wV x3] 43) :: []) ent_refl inferInstance
     refine az (aa rfl (ag rfl) ?_)
     refine aa rfl (g5 n0 dN rfl (aK (by omega))) ?_
     refine aa rfl (ag rfl) (aa rfl (dU ff rfl) ?_)
     refine aa rfl (pU rfl rfl (by omega) (by rw [Int.tmod_eq_emod_of_nonneg (by omega), ← Int.natCast_emod, hk] : Int.tmod (i : Int) (gbs.length : Int) = ((k : Nat) : Int))) ?_
     refine aa rfl (ax rfl) (aw (ak ?_))
     refine gn (fun X : List Nat × Nat × List Evt => X.1.length = 16 ∧ X.2.1 ≤ 4 ∧ X.2.2.length ≤ 1) (fun X => [(2, .int .u8 ring), (4, .pointer (some ⟨b4, 0, none⟩)), (9, .pointer (some ⟨b9, 0, none⟩)), (10, pV hb), (11, .slice a gbs.length cap), (15, .int .i64 k)]) (fun X => pt hb (co c ps pb db qb gb) :: osl 50 1 (.slice a gbs.length cap) (gbs.map pV) :: pt g (bE cs) :: pt rb (bD X.1 X.2.1) :: bO tr X.2.2 :: bn ps (List.replicate (aQ c) bi) :: kH 3 (aX (gB gbs k)) :: pt b4 (aj (bF c) 29) :: pt b9 (aj [wV x0, wV x1, wV x2, wV x3] 43) :: []) ?_ ?_
     ·skip
      refine al (az (aa rfl (ag rfl) ?_))
      refine aa rfl (ap rfl cG rfl ar rfl (by first | exact Nat.zero_add _ | rfl)) ?_
      refine aa rfl (am aT rfl (aH rfl)) ?_
      refine aa rfl (du rfl rfl) (aw (ak ?_))
      refine ai rfl ?_ ?_
      ·intro c10
       refine al ?_
       refine bR [(lg, lo + k * 1, [pV g]), (b9, 0, _)] 6 bQ rfl (cm hcl.weak (aC aB)) (fun hS => ?_)
       refine ab 0 rfl rfl rfl hS (ag rfl) ?_
       refine ab 1 rfl rfl rfl hS (ag rfl) ?_
       refine ab 2 rfl rfl rfl hS (di ff fg rfl hla rfl rfl hkl (by first | exact Nat.zero_add _ | rfl)) ?_
       refine ab 3 rfl rfl rfl hS (am gm rfl (m7 (k := 0) rfl)) ?_
       refine ab 4 rfl rfl rfl hS (cj jN eh rfl (cT (k := 1) rfl) rfl) ?_
       refine aW 5 (by kernel_rfl) rfl rfl (eE tA rfl (p8 W0 _ g (List.replicate 16 0) 0 13 [x0, x1, x2, x3] rfl hG rfl)) rfl ?_; clear hS
       rintro _ B_ ⟨rfl, hB_⟩
       obtain rfl := hB_.symm
       refine ⟨(cm hcl.weak (aC aB)), fun hS => ?_⟩
       refine bz (by kernel_rfl) ?_; clear hS
       refine ak (al (az (aa rfl (ag rfl) (aa rfl (ag rfl) (aa rfl (ag rfl) ?_)))))
       refine ae rfl (qH tB rfl (EQ W0 hb c ps pb db qb gb a cap gbs k g hg (by omega) (dD (List.replicate 16 0) 13 [x0, x1, x2, x3] 4) 0 [] hG (lG rfl 4) (by decide) (by decide) _ rfl c10)) ?_
       rintro _ _ ⟨rfl, Y, rfl, rfl⟩
       refine aa rfl (ag rfl) (aa rfl (bZ rfl rfl) (aa rfl (bZ rfl rfl) (aa rfl (ax rfl) (aa rfl (ax rfl) (aw (ak (al (az (aa rfl (ag rfl) (aa rfl (du rfl rfl) (aa rfl (ag rfl) ?_)))))))))))
       refine aZ rfl rfl rfl ?_ ?_
       ·intro g13_3
        exact absurd rfl g13_3
       ·intro g13_3
        refine aa rfl (ag rfl) (aY rfl rfl (aa rfl (du rfl rfl) (aa rfl (d4 rfl rfl) (aa rfl (ag rfl) ?_))))
        refine aZ rfl rfl rfl ?_ ?_
        ·intro g13_7
         exact absurd rfl g13_7
        ·intro g13_7
         refine aa rfl (ag rfl) (aY rfl rfl (ae rfl (aM Tryz.call14 rfl (EH W0 _ hb c ps pb db qb gb)) ?_))
         rintro _ B_ ⟨rfl, hB_⟩
         obtain rfl := hB_.symm
         refine aY rfl rfl (ae rfl (aM Tryz.call15 rfl (EJ W0 _ gb c.cats c.gate c.quota)) ?_)
         rintro _ B_ ⟨rfl, hB_⟩
         obtain rfl := hB_.symm
         refine aY rfl rfl (aa rfl (dU FG rfl) (aY rfl rfl (aa rfl (du rfl rfl) (aa rfl (d4 rfl rfl) (aa rfl (ag rfl) ?_)))))
         refine aZ rfl rfl rfl ?_ ?_
         ·intro g13_14
          exact absurd rfl g13_14
         ·intro g13_14
          refine aa rfl (ag rfl) (aY rfl rfl (aa rfl (ag rfl) (aY rfl rfl ?_)))
          refine aa rfl (di ff fg rfl hla rfl rfl hkl (by first | exact Nat.zero_add _ | rfl)) ?_
          refine aY rfl rfl (aa rfl (am gm rfl (hcl.weak 0 _ rfl)) ?_)
          refine aY rfl rfl (ae rfl (eE yz rfl (sq W0 _ g (cW (dD (List.replicate 16 0) 13 [x0, x1, x2, x3] 4) 4 0) 4 hG rfl)) ?_)
          rintro _ B_ ⟨rfl, hB_⟩
          obtain rfl := hB_.symm
          refine aY rfl rfl ?_
          refine aa rfl (uT nr cg eS rfl rfl rfl (by decide) rfl) ?_
          refine aY rfl rfl (aa rfl (du rfl rfl) (aa rfl (d4 rfl rfl) (aw (ak ?_))))
          refine ai rfl ?_ ?_
          ·intro c13
           exact absurd c13 (by decide)
          ·intro c13
           refine cy (ak ?_)
           refine d8 (cW (dD (List.replicate 16 0) 13 [x0, x1, x2, x3] 4) 4 0, 4, [⟨2, 0, 13, 4, 0, cW (dD (List.replicate 16 0) 13 [x0, x1, x2, x3] 4) 4 0⟩]) ?_ ?_ ?_
           ·exact ⟨rfl, by simp, by simp⟩
           ·repeat (first | exact aJ | refine aG rfl ?_)
           ·dsimp only [List.nil_append]
            exact inferInstance
      ·intro c10
       refine cy (ak ?_)
       refine d8 (List.replicate 16 0, 0, []) ?_ ?_ ?_
       ·exact ⟨rfl, by simp, by simp⟩
       ·repeat (first | exact aJ | refine aG rfl ?_)
       ·dsimp only [List.nil_append]
        exact inferInstance
     ·intro ⟨rl, pc, es⟩ ⟨hl, hpc, hes⟩
      refine al ?_
      dsimp only at hl hpc hes ⊢
      have q1 : (dD rl 8 [r, x1, x2, x3] 4).getD 1 0 = 8 ∧ (dD rl 8 [r, x1, x2, x3] 4).getD 2 0 = r ∧ (dD rl 8 [r, x1, x2, x3] 4).getD 3 0 = x1 := xu hl
      refine az (aa rfl (ag rfl) ?_)
      refine aa rfl (pU rfl rfl (by decide) (by rw [Int.tmod_eq_emod_of_nonneg (by omega)]; omega : Int.tmod (ring : Int) 4 = ((r : Nat) : Int))) ?_
      refine aa rfl (g5 n0 dN rfl (aK (by omega))) ?_
      refine aa rfl (ax rfl) (aw (ak (al (az (aa rfl (ag rfl) ?_)))))
      refine aa rfl (g5 dN gH rfl (jx (by omega))) ?_
      refine aa rfl (dv hJ cg rfl rfl (i := 0) rfl (by decide) (by first | exact Nat.zero_add _ | rfl)) ?_
      refine b0 (bN cg rfl rfl rfl (by simp) (rfl : List.set [wV x0, wV x1, wV x2, wV x3] (0 * 1) (wV r) = [wV r, wV x1, wV x2, wV x3])) ?_
      rintro _ _ rfl
      refine aw (ak (al ?_))
      rw [show List.set [wV x0, wV x1, wV x2, wV x3] (0 * 1) (wV r) = [wV r, wV x1, wV x2, wV x3] from rfl]
      refine bR [(lg, lo + k * 1, [pV g]), (b9, 0, _)] 6 bQ rfl (cm hcl.weak (aC aB)) (fun hS => ?_)
      refine ab 0 rfl rfl rfl hS (ag rfl) ?_
      refine ab 1 rfl rfl rfl hS (ag rfl) ?_
      refine ab 2 rfl rfl rfl hS (di ff fg rfl hla rfl rfl hkl (by first | exact Nat.zero_add _ | rfl)) ?_
      refine ab 3 rfl rfl rfl hS (am gm rfl (m7 (k := 0) rfl)) ?_
      refine ab 4 rfl rfl rfl hS (cj jN eh rfl (cT (k := 1) rfl) rfl) ?_
      refine aW 5 (by kernel_rfl) rfl rfl (eE tA rfl (p8 W0 _ g rl pc 8 [r, x1, x2, x3] rfl hG hl)) rfl ?_; clear hS
      rintro _ B_ ⟨rfl, hB_⟩
      obtain rfl := hB_.symm
      refine ⟨(cm hcl.weak (aC aB)), fun hS => ?_⟩
      refine bz (by kernel_rfl) ?_; clear hS
      refine ak (al (eN (B := bn ps (List.replicate (aQ c) bi) :: kH 3 (aX (gB gbs k)) :: pt hb (co c ps pb db qb gb) :: osl 50 1 (.slice a gbs.length cap) (gbs.map pV) :: pt g (bE cs) :: pt rb (bD (dD rl 8 [r, x1, x2, x3] 4) pc) :: bO tr es :: pt b4 (aj (bF c) 29) :: pt b9 (aj [wV r, wV x1, wV x2, wV x3] 43) :: []) inferInstance ?_))
      refine eN (fC (A := [bn ps (List.replicate (aQ c) bi), kH 3 (aX (gB gbs k))])) ?_
      refine eN (B := pt hb (co c ps pb db qb gb) :: osl 50 1 (.slice a gbs.length cap) (gbs.map pV) :: pt g (bE cs) :: pt rb (bD (dD rl 8 [r, x1, x2, x3] 4) pc) :: bO tr es :: kH 5 (aX [bn ps (List.replicate (aQ c) bi), kH 3 (aX (gB gbs k))]) :: pt b4 (aj (bF c) 29) :: pt b9 (aj [wV r, wV x1, wV x2, wV x3] 43) :: []) ?_ ?_
      ·exact (inferInstance : Ent (kH 5 (aX [bn ps (List.replicate (aQ c) bi), kH 3 (aX (gB gbs k))]) :: pt hb (co c ps pb db qb gb) :: osl 50 1 (.slice a gbs.length cap) (gbs.map pV) :: pt g (bE cs) :: pt rb (bD (dD rl 8 [r, x1, x2, x3] 4) pc) :: bO tr es :: pt b4 (aj (bF c) 29) :: pt b9 (aj [wV r, wV x1, wV x2, wV x3] 43) :: []) (pt hb (co c ps pb db qb gb) :: osl 50 1 (.slice a gbs.length cap) (gbs.map pV) :: pt g (bE cs) :: pt rb (bD (dD rl 8 [r, x1, x2, x3] 4) pc) :: bO tr es :: kH 5 (aX [bn ps (List.replicate (aQ c) bi), kH 3 (aX (gB gbs k))]) :: pt b4 (aj (bF c) 29) :: pt b9 (aj [wV r, wV x1, wV x2, wV x3] 43) :: []))
      refine az (aa rfl (ag rfl) (aa rfl (ag rfl) (aa rfl (ag rfl) ?_)))
      refine ae rfl (uJ tB rfl (EV W0 hb c ps pb db qb gb a cap gbs k g hg (by omega) (dD rl 8 [r, x1, x2, x3] 4) pc es hG (lG hl 4) (by omega) (by omega) _ h q1.1 hr (by rw [q1.2.1]; omega) (by rw [q1.2.2]; exact h1) hgl)) ?_
      rintro _ B_ ⟨rfl, Z, hZ, hB_⟩
      obtain rfl := hB_.symm
      rw [q1.2.1] at hZ ⊢
      obtain ⟨rl2, hrl2⟩ : ∃ rl2, cW (dD rl 8 [r, x1, x2, x3] 4) (eg c k r) 0 = rl2 := ⟨_, rfl⟩
      have hl2 : rl2.length = 16 := by rw [← hrl2, cW, List.length_set, List.length_set]; exact lG hl 4
      obtain ⟨es2, hes2⟩ : ∃ es2, es ++ [⟨2, 0, 8, eg c k r, pc, rl2⟩] = es2 := ⟨_, rfl⟩
      have hesl : es2.length ≤ 2 := by rw [← hes2]; simp; omega
      rw [hrl2, hes2]
      have q2 : (dD rl2 9 [r, x1, x2, x3] 4).getD 1 0 = 9 ∧ (dD rl2 9 [r, x1, x2, x3] 4).getD 2 0 = r ∧ (dD rl2 9 [r, x1, x2, x3] 4).getD 3 0 = x1 := xu hl2
      refine aa rfl (ag rfl) (aa rfl (bZ rfl rfl) (aa rfl (bZ rfl rfl) (aa rfl (ax rfl) (aa rfl (ax rfl) (aw (ak (al ?_)))))))
      refine bR [(lg, lo + k * 1, [pV g]), (b9, 0, _)] 6 bQ rfl (cm hcl.weak (aC aB)) (fun hS => ?_)
      refine ab 0 rfl rfl rfl hS (ag rfl) ?_
      refine ab 1 rfl rfl rfl hS (ag rfl) ?_
      refine ab 2 rfl rfl rfl hS (di ff fg rfl hla rfl rfl hkl (by first | exact Nat.zero_add _ | rfl)) ?_
      refine ab 3 rfl rfl rfl hS (am gm rfl (m7 (k := 0) rfl)) ?_
      refine ab 4 rfl rfl rfl hS (cj jN eh rfl (cT (k := 1) rfl) rfl) ?_
      refine aW 5 (by kernel_rfl) rfl rfl (eE tA rfl (p8 W0 _ g rl2 (pc + 4) 9 [r, x1, x2, x3] rfl hG hl2)) rfl ?_; clear hS
      rintro _ B_ ⟨rfl, hB_⟩
      obtain rfl := hB_.symm
      refine ⟨(cm hcl.weak (aC aB)), fun hS => ?_⟩
      refine bz (by kernel_rfl) ?_; clear hS
      refine ak (al (az (aa rfl (ag rfl) (aa rfl (ag rfl) (aa rfl (ag rfl) ?_)))))
      refine ae rfl (uJ tB rfl (ES W0 hb c ps pb db qb gb a cap gbs k g hg (by omega) (dD rl2 9 [r, x1, x2, x3] 4) (pc + 4) es2 hG (lG hl2 4) (by omega) (by omega) [] h q2.1 hr (by rw [q2.2.1]; omega) _ Z (kH 3 (aX (gB gbs k))) (by rw [q2.2.1]; exact fun z1 z2 => hZ (F0 hr z2 z1)))) ?_
      rintro _ _ ⟨rfl, Y, rfl, rfl⟩
      rw [q2.2.1]
      refine aa rfl (ag rfl) (aa rfl (bZ rfl rfl) (aa rfl (bZ rfl rfl) (aa rfl (ax rfl) (aa rfl (ax rfl) (aw (ak (al (al (az (aa rfl (ag rfl) ?_))))))))))
      refine aa rfl (ap rfl cG rfl j8 rfl (by first | exact Nat.zero_add _ | rfl)) ?_
      refine aa rfl (am jM rfl (aH rfl)) ?_
      refine aa rfl (dU gk rfl) (aa rfl (iQ rfl rfl) (aw (ak ?_)))
      refine ai rfl ?_ ?_
      ·intro c21
       refine al (az (aa rfl (ag rfl) (aa rfl (dd rfl rfl) (aa rfl (ag rfl) ?_))))
       refine bX rfl rfl rfl ?_ ?_
       ·intro g22_3
        refine aa rfl (ag rfl) (aY rfl rfl (aa rfl (dd rfl rfl) (aa rfl (cV rfl rfl) (aa rfl (ag rfl) ?_))))
        refine bX rfl rfl rfl ?_ ?_
        ·intro g22_7
         refine ae rfl (aF pL rfl (mT W0 _)) ?_
         rintro _ B_ ⟨rfl, hB_⟩
         obtain rfl := hB_.symm
         refine aa rfl (cV rfl rfl) (aa rfl (ax rfl) (aw (ak (bY (cn (ah (.inl rfl) (.cons (ac rfl) .nil) ?_))))))
         exact ⟨_, ⟨rfl, rfl⟩, inferInstance⟩
        ·intro g22_7
         exact absurd (by rw [ig, if_neg (by omega)]; rfl) g22_7
       ·intro g22_3
        exact absurd (by rw [eg, if_neg (by omega)]; rfl) g22_3
      ·intro c21
       refine cy (ak (al ?_))
       have hrn : r < c.nl.length := by omega
       obtain ⟨nb, no, hna, hnc⟩ := (h.ok.n []).at_ hrn
       have hnx : c.nl[r] = dq c r := by simp [dq, List.getD, hrn]
       rw [hnx] at hnc
       refine az (aa rfl (ag rfl) (aa rfl (dd rfl rfl) ?_))
       refine aa rfl (ap rfl cG rfl j8 rfl (by first | exact Nat.zero_add _ | rfl)) ?_
       refine aa rfl (am jM rfl (aH rfl)) ?_
       refine aa rfl (ag rfl) ?_
       refine aa rfl (di gk dT rfl hna rfl rfl hrn (by first | exact Nat.zero_add _ | rfl)) ?_
       refine aa rfl (ap rfl fe rfl ar rfl (by first | exact Nat.zero_add _ | rfl)) ?_
       refine aa rfl (am aT rfl (hnc.weak 0 _ rfl)) ?_
       refine aa rfl (ag rfl) (aa rfl (du rfl rfl) (aa rfl (tT pI rfl rfl) ?_))
       refine aa rfl (ag rfl) ?_
       refine bX rfl rfl rfl ?_ ?_
       ·intro g23_12
        refine aa rfl (ag rfl) (aY rfl rfl (aa rfl (dd rfl rfl) (aY rfl rfl ?_)))
        refine aa rfl (ap rfl cG rfl j8 rfl (by first | exact Nat.zero_add _ | rfl)) ?_
        refine aY rfl rfl (aa rfl (am jM rfl (aH rfl)) ?_)
        refine aY rfl rfl (aa rfl (ag rfl) (aY rfl rfl ?_))
        refine aa rfl (di gk dT rfl hna rfl rfl hrn (by first | exact Nat.zero_add _ | rfl)) ?_
        refine aY rfl rfl ?_
        refine aa rfl (ap rfl fe rfl ar rfl (by first | exact Nat.zero_add _ | rfl)) ?_
        refine aY rfl rfl (aa rfl (am aT rfl (hnc.weak 1 _ rfl)) ?_)
        refine aY rfl rfl (aa rfl (ag rfl) (aY rfl rfl (aa rfl (du rfl rfl) (aY rfl rfl (aa rfl (tT pI rfl rfl) ?_)))))
        refine aa rfl (cV rfl rfl) (aa rfl (ag rfl) ?_)
        refine bX rfl rfl rfl ?_ ?_
        ·intro g23_25
         refine ae rfl (aF pL rfl (mT W0 _)) ?_
         rintro _ B_ ⟨rfl, hB_⟩
         obtain rfl := hB_.symm
         refine aa rfl (cV rfl rfl) (aa rfl (ax rfl) (aw (ak (bY (ah (.inl rfl) (.cons (ac rfl) .nil) ?_)))))
         exact ⟨_, ⟨rfl, rfl⟩, inferInstance⟩
        ·intro g23_25
         exact absurd (by rw [ig, if_pos hrn]; split <;> simp_all) g23_25
       ·intro g23_12
        exact absurd (by rw [eg, if_pos hrn]; split <;> simp_all) g23_12
theorem F4 (W0 : World) (c : Cfg) (h : CfK W0 c) (i ring x0 x1 x2 x3 : Nat) (hi : i < 256) (h1 : x1 < 4294967296) (hring : ring < 256) :
  ao Tryz.prog W0 4 [.agg (bF c).toArray, .int .u8 i, .int .u8 ring, .agg #[wV x0, wV x1, wV x2, wV x3]] [] (fun v B => v = .bool true ∧ B = []) := by
 by_cases hr : rt c = true
 ·exact F3 W0 c h hr i ring x0 x1 x2 x3 hi h1 hring
 ·exact F2 W0 c h (by simpa using hr) i ring x0 x1 x2 x3
end
section
open Go.ChangeShapes Go.WideShapes Go.ChangeAt Go.RowKit
set_option linter.unusedSimpArgs false
set_option linter.unusedVariables false
theorem own : ownKnob Tryz.prog.godebug = none := by kernel_rfl
theorem F5 : laidOutB Tryz.prog = true := by kernel_rfl
variable {W : World} {v : Value}
theorem pd {n : Int} (h : (Lit.int .u32 n).wf = true) : ∃ w : Nat, n = (w : Int) ∧ w < 4294967296 := by
 simp [Lit.wf, IntKind.min, IntKind.max, IntKind.signed, IntKind.bits] at h
 exact ⟨n.toNat, by omega, by omega⟩
theorem F6 {n : Int} (h : (Lit.int .u8 n).wf = true) : ∃ w : Nat, n = (w : Int) ∧ w < 256 := by
 simp [Lit.wf, IntKind.min, IntKind.max, IntKind.signed, IntKind.bits] at h
 exact ⟨n.toNat, by omega, by omega⟩
theorem xw (h : Ty Tryz.prog W 5 v) : ∃ w : Nat, v = .int .u8 w ∧ w < 256 := by
 obtain ⟨n, rfl, hw⟩ := Bg n0 h
 obtain ⟨w, rfl, h'⟩ := F6 hw
 exact ⟨w, rfl, h'⟩
end
section
open Go.ChangeShapes Go.WideShapes Go.ChangeAt Go.RowKit
set_option linter.unusedSimpArgs false
set_option linter.unusedVariables false
variable {W : World} {v : Value}
end
section
open Go.ChangeShapes Go.WideShapes Go.ChangeAt Go.RowKit
set_option linter.unusedSimpArgs false
set_option linter.unusedVariables false
variable {W : World} {v : Value}
end
section
open Go.RowKit
end
section
open Go.ChangeShapes Go.WideShapes Go.ChangeAt Go.RowKit
set_option linter.unusedSimpArgs false
set_option linter.unusedVariables false
variable {W : World} {v : Value}
end
section
open Go.ChangeShapes Go.WideShapes Go.ChangeAt Go.RowKit
set_option linter.unusedSimpArgs false
set_option linter.unusedVariables false
variable {W : World} {v : Value}
end
section
open Go.ChangeShapes Go.WideShapes Go.ChangeAt Go.RowKit
set_option linter.unusedSimpArgs false
set_option linter.unusedVariables false
theorem F7 {P : Program} {w : World} {r : Reach} {base : Nat} {t : TypeId} {v : Value} {n e : Nat} (ht : P.underlying t = some (.array n e)) (h : Value.okWide P w r base t v) : ∃ cs, v = .agg cs ∧ cs.size = P.cellsOf t := by
 simp only [Value.okWide, ht] at h
 obtain ⟨cs, h1, h2, _⟩ := h
 exact ⟨cs, h1, h2⟩
theorem F8 {P : Program} {W : World} {t : TypeId} {v : Value} {n e : Nat} (hu : P.underlying t = some (.array n e)) (h : Ty P W t v) : ∃ l : List Value, v = .agg l.toArray ∧ l.length = P.cellsOf t ∧ ∃ fuel, ∀ i, i < n → ew P W fuel e ((l.drop (i * P.cellsOf e)).take (P.cellsOf e)) := by
 obtain ⟨⟨r, b, h1⟩, fuel, h2⟩ := h
 obtain ⟨cs, rfl, _⟩ := F7 hu h1
 cases fuel with
 | zero => exact absurd h2 (by simp [ew])
 | succ f =>
  unfold ew at h2
  simp only [hu] at h2
  exact ⟨cs.toList, by simp, h2.1, f, h2.2⟩
variable {W : World} {v : Value}
end
section
open Go.ChangeShapes Go.WideShapes Go.ChangeAt Go.RowKit
theorem F9 {l : List Value} (h : l.length = 4) : ∃ x0 x1 x2 x3, l = [x0, x1, x2, x3] := by
 match l, h with
 | [x0, x1, x2, x3], _ => exact ⟨x0, x1, x2, x3, rfl⟩
theorem Fa {W : World} {v : Value} (h : Ty Tryz.prog W 43 v) : ∃ x0 x1 x2 x3 : Nat, v = .agg #[wV x0, wV x1, wV x2, wV x3] ∧ x1 < 4294967296 := by
 obtain ⟨l, rfl, hl, f, hi⟩ := F8 hJ h
 have hl4 : l.length = 4 := hl.trans (by kernel_rfl)
 obtain ⟨a, b, c, d, rfl⟩ := F9 hl4
 rw [show Tryz.prog.cellsOf 42 = 1 by kernel_rfl] at hi
 obtain ⟨m0, e0, k0⟩ := fl gH (hi 0 (by decide))
 obtain ⟨m1, e1, k1⟩ := fl gH (hi 1 (by decide))
 obtain ⟨m2, e2, k2⟩ := fl gH (hi 2 (by decide))
 obtain ⟨m3, e3, k3⟩ := fl gH (hi 3 (by decide))
 obtain ⟨x0, rfl, _⟩ := pd k0
 obtain ⟨x1, rfl, q1⟩ := pd k1
 obtain ⟨x2, rfl, _⟩ := pd k2
 obtain ⟨x3, rfl, _⟩ := pd k3
 refine ⟨x0, x1, x2, x3, ?_, q1⟩
 simp at e0 e1 e2 e3
 rw [e0, e1, e2, e3]; rfl
end
section
open Go.ChangeShapes Go.WideShapes Go.ChangeAt Go.RowKit
set_option linter.unusedSimpArgs false
set_option linter.unusedVariables false
variable {W : World} {v : Value}
theorem sB {l : List Value} (h : l.length = 2) : ∃ x0 x1, l = [x0, x1] := by
 match l, h with
 | [x0, x1], _ => exact ⟨x0, x1, rfl⟩
theorem xx {l : List Value} (h : l.length = 3) : ∃ x0 x1 x2, l = [x0, x1, x2] := by
 match l, h with
 | [x0, x1, x2], _ => exact ⟨x0, x1, x2, rfl⟩
theorem Fb {l : List Value} (h : l.length = 8) : ∃ x0 x1 x2 x3 x4 x5 x6 x7, l = [x0, x1, x2, x3, x4, x5, x6, x7] := by
 match l, h with
 | [x0, x1, x2, x3, x4, x5, x6, x7], _ => exact ⟨x0, x1, x2, x3, x4, x5, x6, x7, rfl⟩
theorem Fc {fuel : Nat} {l : List Value} (h : ew Tryz.prog W fuel 72 l) : ∃ x : Int × Int × Int, l = dB x ∧ True := by
 obtain ⟨hl, f', hf⟩ := lp dC h
 obtain ⟨a, b, c, rfl⟩ := xx (hl.trans (by kernel_rfl))
 have h0 := hf _ (List.mem_cons_self ..)
 have h1 := hf _ (List.mem_cons_of_mem _ (List.mem_cons_self ..))
 have h2 := hf _ (List.mem_cons_of_mem _ (List.mem_cons_of_mem _ (List.mem_cons_self ..)))
 rw [show Tryz.prog.cellsOf 3 = 1 by kernel_rfl] at h0 h1 h2
 obtain ⟨x0, e0, _⟩ := fl dN h0
 obtain ⟨x1, e1, _⟩ := fl dN h1
 obtain ⟨x2, e2, _⟩ := fl dN h2
 simp at e0 e1 e2
 exact ⟨(x0, x1, x2), by rw [e0, e1, e2]; rfl, trivial⟩
theorem Fe {fuel : Nat} {l : List Value} (h : ew Tryz.prog W fuel 157 l) : ∃ x : Int × Int × Int, l = dB x ∧ True := by
 obtain ⟨hl, f', hf⟩ := lp gZ h
 obtain ⟨a, b, c, rfl⟩ := xx (hl.trans (by kernel_rfl))
 have h0 := hf _ (List.mem_cons_self ..)
 have h1 := hf _ (List.mem_cons_of_mem _ (List.mem_cons_self ..))
 have h2 := hf _ (List.mem_cons_of_mem _ (List.mem_cons_of_mem _ (List.mem_cons_self ..)))
 rw [show Tryz.prog.cellsOf 3 = 1 by kernel_rfl] at h0 h1 h2
 obtain ⟨x0, e0, _⟩ := fl dN h0
 obtain ⟨x1, e1, _⟩ := fl dN h1
 obtain ⟨x2, e2, _⟩ := fl dN h2
 simp at e0 e1 e2
 exact ⟨(x0, x1, x2), by rw [e0, e1, e2]; rfl, trivial⟩
theorem Ff {fuel : Nat} {l : List Value} (h : ew Tryz.prog W fuel 159 l) : ∃ x : Int × Int, l = cM x ∧ True := by
 obtain ⟨hl, f', hf⟩ := lp fB h
 obtain ⟨a, b, rfl⟩ := sB (hl.trans (by kernel_rfl))
 have h0 := hf _ (List.mem_cons_self ..)
 have h1 := hf _ (List.mem_cons_of_mem _ (List.mem_cons_self ..))
 rw [show Tryz.prog.cellsOf 3 = 1 by kernel_rfl] at h0 h1
 obtain ⟨x0, e0, _⟩ := fl dN h0
 obtain ⟨x1, e1, _⟩ := fl dN h1
 simp at e0 e1
 exact ⟨(x0, x1), by rw [e0, e1], trivial⟩
theorem Fg {fuel : Nat} {l : List Value} (h : ew Tryz.prog W fuel 61 l) : ∃ x : Int × Int, l = cM x ∧ True := by
 obtain ⟨hl, f', hf⟩ := lp fe h
 obtain ⟨a, b, rfl⟩ := sB (hl.trans (by kernel_rfl))
 have h0 := hf _ (List.mem_cons_self ..)
 have h1 := hf _ (List.mem_cons_of_mem _ (List.mem_cons_self ..))
 rw [show Tryz.prog.cellsOf 3 = 1 by kernel_rfl] at h0 h1
 obtain ⟨x0, e0, _⟩ := fl dN h0
 obtain ⟨x1, e1, _⟩ := fl dN h1
 simp at e0 e1
 exact ⟨(x0, x1), by rw [e0, e1], trivial⟩
theorem Fh {fuel : Nat} {l : List Value} (h : ew Tryz.prog W fuel 74 l) : ∃ x : Int × Int, l = cM x ∧ True := by
 obtain ⟨hl, f', hf⟩ := lp xR h
 obtain ⟨a, b, rfl⟩ := sB (hl.trans (by kernel_rfl))
 have h0 := hf _ (List.mem_cons_self ..)
 have h1 := hf _ (List.mem_cons_of_mem _ (List.mem_cons_self ..))
 rw [show Tryz.prog.cellsOf 3 = 1 by kernel_rfl] at h0 h1
 obtain ⟨x0, e0, _⟩ := fl dN h0
 obtain ⟨x1, e1, _⟩ := fl dN h1
 simp at e0 e1
 exact ⟨(x0, x1), by rw [e0, e1], trivial⟩
theorem Fi (h : Ty Tryz.prog W 29 v) : ∃ c : Cfg, v = .agg (bF c).toArray ∧ CfOk W c ∧ c.gl.length ≤ c.gc := by
 obtain ⟨l, rfl, fuel, hI⟩ := Bh cG h
 obtain ⟨hl, f', hf⟩ := lp cG hI
 obtain ⟨x0, x1, x2, x3, x4, x5, x6, x7, rfl⟩ := Fb (hl.trans (by kernel_rfl))
 have h0 := hf _ (List.mem_cons_self ..)
 have h1 := hf _ (List.mem_cons_of_mem _ (List.mem_cons_self ..))
 have h2 := hf _ (List.mem_cons_of_mem _ (List.mem_cons_of_mem _ (List.mem_cons_self ..)))
 have h3 := hf _ (List.mem_cons_of_mem _ (List.mem_cons_of_mem _ (List.mem_cons_of_mem _ (List.mem_cons_self ..))))
 have h4 := hf _ (List.mem_cons_of_mem _ (List.mem_cons_of_mem _ (List.mem_cons_of_mem _ (List.mem_cons_of_mem _ (List.mem_cons_self ..)))))
 have h5 := hf _ (List.mem_cons_of_mem _ (List.mem_cons_of_mem _ (List.mem_cons_of_mem _ (List.mem_cons_of_mem _ (List.mem_cons_of_mem _ (List.mem_cons_self ..))))))
 have h6 := hf _ (List.mem_cons_of_mem _ (List.mem_cons_of_mem _ (List.mem_cons_of_mem _ (List.mem_cons_of_mem _ (List.mem_cons_of_mem _ (List.mem_cons_of_mem _ (List.mem_cons_self ..)))))))
 have h7 := hf _ (List.mem_cons_of_mem _ (List.mem_cons_of_mem _ (List.mem_cons_of_mem _ (List.mem_cons_of_mem _ (List.mem_cons_of_mem _ (List.mem_cons_of_mem _ (List.mem_cons_of_mem _ (List.mem_cons_self ..))))))))
 rw [show Tryz.prog.cellsOf 3 = 1 by kernel_rfl] at h0
 rw [show Tryz.prog.cellsOf 23 = 1 by kernel_rfl] at h1
 rw [show Tryz.prog.cellsOf 24 = 1 by kernel_rfl] at h2
 rw [show Tryz.prog.cellsOf 25 = 1 by kernel_rfl] at h3
 rw [show Tryz.prog.cellsOf 26 = 1 by kernel_rfl] at h4
 rw [show Tryz.prog.cellsOf 27 = 1 by kernel_rfl] at h5
 rw [show Tryz.prog.cellsOf 3 = 1 by kernel_rfl] at h6
 rw [show Tryz.prog.cellsOf 3 = 1 by kernel_rfl] at h7
 obtain ⟨y0, e0, _⟩ := fl dN h0
 obtain ⟨a1, c1, L1, e1, p1, q1, r1, s1⟩ := my (α := Int × Int × Int) (f := dB) (Q := fun _ => True) 3 eC (by kernel_rfl) (by decide) (fun fuel r h => Fc h) h1
 obtain ⟨a2, c2, L2, e2, p2, q2, r2, s2⟩ := my (α := Int × Int × Int) (f := dB) (Q := fun _ => True) 3 gX (by kernel_rfl) (by decide) (fun fuel r h => Fe h) h2
 obtain ⟨a3, c3, L3, e3, p3, q3, r3, s3⟩ := my (α := Int × Int) (f := cM) (Q := fun _ => True) 2 gE (by kernel_rfl) (by decide) (fun fuel r h => Ff h) h3
 obtain ⟨a4, c4, L4, e4, p4, q4, r4, s4⟩ := my (α := Int × Int) (f := cM) (Q := fun _ => True) 2 gk (by kernel_rfl) (by decide) (fun fuel r h => Fg h) h4
 obtain ⟨a5, c5, L5, e5, p5, q5, r5, s5⟩ := my (α := Int × Int) (f := cM) (Q := fun _ => True) 2 px (by kernel_rfl) (by decide) (fun fuel r h => Fh h) h5
 obtain ⟨y6, e6, _⟩ := fl dN h6
 obtain ⟨y7, e7, _⟩ := fl dN h7
 simp at e0 e1 e2 e3 e4 e5 e6 e7
 exact ⟨⟨y0, a1, c1, L1, a2, c2, L2, a3, c3, L3, a4, c4, L4, a5, c5, L5, y6, y7⟩, by rw [e0, e1, e2, e3, e4, e5, e6, e7], ⟨fun A => mz r1, fun A => mz r2, fun A => mz r3, fun A => mz r4, fun A => mz r5, p3⟩, p1⟩
end
end Go.Proofs.YtoedafbckfgkjaaGreat
