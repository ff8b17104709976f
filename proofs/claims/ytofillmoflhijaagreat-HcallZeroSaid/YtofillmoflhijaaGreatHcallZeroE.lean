/-
  Part 5 of the proof of HcallZero: rules, and walks of functions. Conditions: none.
-/
import Derived.Test.YtofillmoflhijaaGreatHcallZeroD
namespace Go.Proofs.YtofillmoflhijaaGreat
open Go.Proofs.Tryz
set_option linter.unusedSimpArgs false
set_option linter.unusedVariables false
set_option maxRecDepth 20000
set_option linter.defProp false
set_option synthInstance.maxSize 8192
set_option synthInstance.maxHeartbeats 2000000
variable {W0 : World} {R : List HP}
section
open Go.RowKit
abbrev vu (c : Cfg) (hb ps pb db qb gb : Nat) (a : Option Addr) (cap g0 g1 : Nat) (R : List HP) : List HP := pt hb (aw (dV c ps pb db qb gb) 68) :: osl 50 1 (.slice a [g0, g1].length cap) ([g0, g1].map pV) :: fu g0 fX :: fu g1 fX :: R
theorem vv (W0 : World) (b1 b2 b3 b4 b5 : Nat) (R : List HP) :
    aC Tryz.prog W0 12 [.agg (cj (eh b1 b2 b3 b4 b5)).toArray, .slice none 0 0, .slice none 0 0] (mp b1 b2 b3 b4 b5 R)
      (fun v B => ∃ hb ps pb db qb gb wb a cap a2 n2 cap2 g0 g1, v = .tuple #[pV hb, .slice a [g0, g1].length cap, pV wb, .slice a2 n2 cap2, .bool true] ∧ B = vu (eh b1 b2 b3 b4 b5) hb ps pb db qb gb a cap g0 g1 R) := by
 refine fun w hO => (u7 (fun W hW => C0 W [] (eh b1 b2 b3 b4 b5) (vt hW) (vr b1 b2 b3 b4 b5)) w hO).mono ?_
 rintro e w' ⟨v, B, rfl, ⟨C, ⟨hb, ps, pb, db, qb, gb, wb, a, cap, a2, n2, cap2, gbs, hl, rfl, rfl⟩, rfl⟩, hO'⟩
 obtain ⟨g0, g1, rfl⟩ : ∃ g0 g1, gbs = [g0, g1] := by
  match gbs, hl with
  | [x, y], _ => exact ⟨x, y, rfl⟩
 refine ⟨_, _, rfl, ⟨hb, ps, pb, db, qb, gb, wb, a, cap, a2, n2, cap2, g0, g1, rfl, rfl⟩, hO'.ent ?_⟩
 refine Ent.trans (B := kH 2 (bG ([g0, g1].map fun g => fu g fX)) :: pt hb (aw (dV (eh b1 b2 b3 b4 b5) ps pb db qb gb) 68) :: osl 50 1 (.slice a [g0, g1].length cap) ([g0, g1].map pV) :: R) ?_ ?_
 simp only [List.cons_append, List.nil_append]
 exact inferInstance
 refine Ent.trans (ip (A := [fu g0 fX, fu g1 fX])) ?_
 exact (inferInstance : Ent (fu g0 fX :: fu g1 fX :: pt hb (aw (dV (eh b1 b2 b3 b4 b5) ps pb db qb gb) 68) :: osl 50 1 (.slice a [g0, g1].length cap) ([g0, g1].map pV) :: R) (vu (eh b1 b2 b3 b4 b5) hb ps pb db qb gb a cap g0 g1 R))
theorem Ch : iE (List.replicate 16 0) 0 [0, 0, 0, 0] 4 = List.replicate 16 0 := by decide
theorem Ci : aC Tryz.prog W0 11 [] R (fun v B => v = .bool true ∧ B = R) := by
 refine aF func11 ntmps11 rfl rfl ?_
 refine ae (ah (aa rfl (ai rfl) (ag (ab (ae (ah (am rfl (aS wy rfl (rm)) ?_)))))))
 rintro _ B_ ⟨b1, b2, b3, b4, b5, rfl, hB_⟩
 obtain rfl := hB_.symm
 refine am rfl (aS call12 rfl (vv W0 b1 b2 b3 b4 b5 _)) ?_
 rintro _ B_ ⟨hb, ps, pb, db, qb, gb, wb, a, cap, a2, n2, cap2, g0, g1, rfl, hB_⟩
 obtain rfl := hB_.symm
 refine aa rfl (ac rfl) (aa rfl (aZ rfl rfl) (aa rfl (aZ rfl rfl) (aa rfl (aZ rfl rfl) (aa rfl (aZ rfl rfl) (aa rfl (aZ rfl rfl) (aa rfl (ai rfl) (aa rfl (ai rfl) (aa rfl (ai rfl) (aa rfl (ai rfl) (aa rfl (ai rfl) (ag (ab (ae (ae (ah (aa rfl (ac rfl) (aa rfl (bN rfl) (aa rfl (ac rfl) ?_))))))))))))))))))
 refine bA rfl rfl rfl ?_ ?_
 intro g2_3
 exact absurd g2_3 (by decide)
 intro g2_3
 refine aa rfl (ac rfl) (ar rfl rfl (aa rfl (dl oM rfl rfl) (aa rfl (aJ rfl rfl) (aa rfl (ac rfl) ?_))))
 refine bA rfl rfl rfl ?_ ?_
 intro g2_7
 first | exact absurd g2_7 (by decide) | (cases g2_7)
 intro g2_7
 refine aa rfl (ac rfl) (ar rfl rfl (aa rfl (bq hJ rfl) (ar rfl rfl (aa rfl (co rfl rfl) (aa rfl (aJ rfl rfl) (ag (ab ?_)))))))
 refine ax rfl ?_ ?_
 intro c2
 first | exact absurd c2 (by decide) | (simp at c2)
 intro c2
 refine aB (ab (ae ?_))
 refine BR (gb := g1) fun cs rb vb pv tr o hG hrl _ => ?_
 refine fJ (B := pt g1 (eg cs) :: pt rb (dh (List.replicate 16 0) 0) :: dU tr [] :: pt hb (aw (dV (eh b1 b2 b3 b4 b5) ps pb db qb gb) 68) :: osl 50 1 (.slice a [g0, g1].length cap) ([g0, g1].map pV) :: R) (Ent.cons (Ent.cons (Ent.cons inferInstance))) ?_
 refine dP (r := osl 50 1) (b := .slice a [g0, g1].length cap) (ge (fun h1 h2 => by cases h2) fun lg nn c2 sp h1 h2 h3 h4 h5 => ?_)
 cases h1
 refine ah (aa rfl (ac rfl) ?_)
 refine aa rfl (bY hJ iJ rfl rfl (i := 1) rfl (show 1 < 2 by decide) (by first | exact Nat.zero_add _ | rfl)) ?_
 refine aa rfl (ap jF rfl (aA rfl)) ?_
 refine aa rfl (m6 rP dz rQ rfl) ?_
 refine am rfl (gN call13 rfl (Cf W0 _ g1 (List.replicate 16 0) 0 0 [0, 0, 0, 0] rfl hG rfl)) ?_
 rintro _ B_ ⟨rfl, hB_⟩
 obtain rfl := hB_.symm
 rw [Ch]
 refine ag (ab (ae ?_))
 refine fJ (B := osl 50 1 (.slice (some ⟨lg, 0, none⟩) [g0, g1].length cap) ([g0, g1].map pV) :: pt hb (aw (dV (eh b1 b2 b3 b4 b5) ps pb db qb gb) 68) :: pt g1 (eg cs) :: pt rb (dh (List.replicate 16 0) 0) :: dU tr [] :: R) ?_ ?_
 refine Ent.trans (B := pt lg (aw ([g0, g1].map pV ++ sp) 50) :: pt hb (aw (dV (eh b1 b2 b3 b4 b5) ps pb db qb gb) 68) :: pt g1 (eg cs) :: pt rb (dh (List.replicate 16 0) 0) :: dU tr [] :: R) inferInstance ?_
 exact eP h2 h3 rfl h5
 refine ah (aa rfl (ac rfl) (aa rfl (ac rfl) ?_))
 refine am rfl (t6 rX rfl (Ce W0 _ hb (eh b1 b2 b3 b4 b5) ps pb db qb gb (some ⟨lg, 0, none⟩) cap [g0, g1] 1 g1 rfl (show 2 ≤ 4 by decide) (List.replicate 16 0) 0 [] hG rfl (by decide) (by decide) rfl)) ?_
 rintro _ B_ ⟨rfl, hB_⟩
 obtain rfl := hB_.symm
 refine aa rfl (ac rfl) (aa rfl (aZ rfl rfl) (aa rfl (aZ rfl rfl) (aa rfl (ai rfl) (aa rfl (ai rfl) (ag (ab (ae ?_)))))))
 refine dP (r := osl 50 1) (b := .slice (some ⟨lg, 0, none⟩) [g0, g1].length cap) (ge (fun h1 h2 => by cases h2) fun lg nn c2 sp h1 h2 h3 h4 h5 => ?_)
 cases h1
 refine ah (aa rfl (ac rfl) (aa rfl (cz rfl rfl) (aa rfl (ac rfl) ?_)))
 refine cG rfl rfl rfl ?_ ?_
 intro g6_3
 refine aa rfl (ac rfl) (ar rfl rfl (aa rfl (cz rfl rfl) (aa rfl (aT rfl rfl) (aa rfl (ac rfl) ?_))))
 refine cG rfl rfl rfl ?_ ?_
 intro g6_7
 refine aa rfl (ac rfl) (ar rfl rfl ?_)
 refine aa rfl (bY hJ iJ rfl rfl (i := 1) rfl (show 1 < 2 by decide) (by first | exact Nat.zero_add _ | rfl)) ?_
 refine ar rfl rfl (aa rfl (ap jF rfl (aA rfl)) ?_)
 refine ar rfl rfl (am rfl (gN call17 rfl (vo g1 (gr (List.replicate 16 0) 0 1) 4 hG rfl)) ?_)
 rintro _ B_ ⟨rfl, hB_⟩
 obtain rfl := hB_.symm
 refine ar rfl rfl ?_
 refine aa rfl (y7 oI dz je rfl rfl rfl (by decide) rfl) ?_
 refine ar rfl rfl (aa rfl (cz rfl rfl) (aa rfl (aT rfl rfl) (aa rfl (ac rfl) ?_)))
 refine cG rfl rfl rfl ?_ ?_
 intro g6_15
 refine aa rfl (ac rfl) (ar rfl rfl ?_)
 refine aa rfl (bY hJ iJ rfl rfl (i := 1) rfl (show 1 < 2 by decide) (by first | exact Nat.zero_add _ | rfl)) ?_
 refine ar rfl rfl (aa rfl (ap jF rfl (aA rfl)) ?_)
 refine ar rfl rfl (am rfl (bz call30 rfl (C1 g1 hG)) ?_)
 rintro _ B_ ⟨rfl, hB_⟩
 obtain rfl := hB_.symm
 refine ar rfl rfl (am rfl (bz call31 rfl (B6 tr _)) ?_)
 rintro _ B_ ⟨rfl, hB_⟩
 obtain rfl := hB_.symm
 refine ar rfl rfl (aa rfl (cz rfl rfl) (aa rfl (aT rfl rfl) (aa rfl (ai rfl) (ag (ab (av (au (.inl rfl) (.cons (ak rfl) .nil) ?_)))))))
 exact ⟨_, ⟨rfl, rfl⟩, inferInstance⟩
 intro g6_15
 exact absurd (by decide) g6_15
 intro g6_7
 exact absurd (by decide) g6_7
 intro g6_3
 exact absurd (by decide) g6_3
abbrev jc : Obj := aw [.int .i64 0, .slice none 0 0, .slice none 0 0, .slice none 0 0, .slice none 0 0, .slice none 0 0, .int .i64 0, .int .i64 0, .pointer none, .pointer none, .pointer none, .pointer none, .pointer none] 68
theorem jw (W0 : World) (A : List HP) (p : Option Addr) (h : Zo jc p A) : aC Tryz.prog W0 36 [.pointer p] A (fun v B => v = .bool true ∧ B = A) := by
 rcases h with rfl | ⟨b, rfl, h⟩
 skip
 refine aF wt ntmps36 rfl rfl ?_
 refine ae (ah (aa rfl (ai rfl) (ag (ab (ae (ah (aa rfl (ac rfl) (aa rfl (dl oM rfl rfl) (aa rfl (ac rfl) ?_)))))))))
 refine bA rfl rfl rfl ?_ ?_
 intro g1_3
 refine al rfl rfl rfl rfl (al rfl rfl rfl rfl (al rfl rfl rfl rfl (al rfl rfl rfl rfl (aa rfl (aT rfl rfl) (aa rfl (ai rfl) (ag (ab (av (au (.inl rfl) (.cons (ak rfl) .nil) ?_)))))))))
 exact ⟨_, ⟨rfl, rfl⟩, inferInstance⟩
 intro g1_3
 exact absurd rfl g1_3
 skip
 refine aF wt ntmps36 rfl rfl ?_
 refine ae (ah (aa rfl (ai rfl) (ag (ab (ae (ah (aa rfl (ac rfl) (aa rfl (dl oM rfl rfl) (aa rfl (ac rfl) ?_)))))))))
 refine bA rfl rfl rfl ?_ ?_
 intro g1_3
 cases g1_3
 intro g1_3
 refine aa rfl (ac rfl) (ar rfl rfl (aa rfl (aH rfl) (ar rfl rfl ?_)))
 refine aa rfl (ao rfl iW rfl ic rfl (by first | exact Nat.zero_add _ | rfl)) ?_
 refine ar rfl rfl (aa rfl (ap kl rfl (Cg h rfl)) ?_)
 refine ar rfl rfl (aa rfl (dl ov rfl rfl) (aa rfl (aJ rfl rfl) (aa rfl (ai rfl) (ag (ab (av (au (.inl rfl) (.cons (ak rfl) .nil) ?_)))))))
 exact ⟨_, ⟨rfl, rfl⟩, inferInstance⟩
theorem Cj (W0 : World) (A : List HP) (p : Option Addr) (h : Zo jc p A) : aC Tryz.prog W0 21 [.pointer p] A (fun v B => v = .pointer none ∧ B = A) := by
 refine aF func21 ntmps21 rfl rfl ?_
 refine ae (ah (aa rfl (ai rfl) (ag (ab (ae (ae (ah (aa rfl (ac rfl) (am rfl (aS io rfl (jw W0 _ p h)) ?_)))))))))
 rintro _ B_ ⟨rfl, hB_⟩
 obtain rfl := hB_.symm
 refine ag (ab ?_)
 refine ax rfl ?_ ?_
 intro c1
 refine ae (ah (aa rfl (ai rfl) (ag (ab (av (aD (au (.inl rfl) (.cons (ak rfl) .nil) ?_)))))))
 exact ⟨_, ⟨rfl, rfl⟩, inferInstance⟩
 intro c1
 exact absurd rfl c1
theorem Ck (W0 : World) (A : List HP) (p : Option Addr) (h : Zo jc p A) : aC Tryz.prog W0 22 [.pointer p] A (fun v B => v = .pointer none ∧ B = A) := by
 refine aF func22 ntmps22 rfl rfl ?_
 refine ae (ah (aa rfl (ai rfl) (ag (ab (ae (ae (ah (aa rfl (ac rfl) (am rfl (aS io rfl (jw W0 _ p h)) ?_)))))))))
 rintro _ B_ ⟨rfl, hB_⟩
 obtain rfl := hB_.symm
 refine ag (ab ?_)
 refine ax rfl ?_ ?_
 intro c1
 refine ae (ah (aa rfl (ai rfl) (ag (ab (av (aD (au (.inl rfl) (.cons (ak rfl) .nil) ?_)))))))
 exact ⟨_, ⟨rfl, rfl⟩, inferInstance⟩
 intro c1
 exact absurd rfl c1
theorem Cl (W0 : World) (A : List HP) (p : Option Addr) (h : Zo jc p A) : aC Tryz.prog W0 23 [.pointer p] A (fun v B => v = .pointer none ∧ B = A) := by
 refine aF func23 ntmps23 rfl rfl ?_
 refine ae (ah (aa rfl (ai rfl) (ag (ab (ae (ae (ah (aa rfl (ac rfl) (am rfl (aS io rfl (jw W0 _ p h)) ?_)))))))))
 rintro _ B_ ⟨rfl, hB_⟩
 obtain rfl := hB_.symm
 refine ag (ab ?_)
 refine ax rfl ?_ ?_
 intro c1
 refine ae (ah (aa rfl (ai rfl) (ag (ab (av (aD (au (.inl rfl) (.cons (ak rfl) .nil) ?_)))))))
 exact ⟨_, ⟨rfl, rfl⟩, inferInstance⟩
 intro c1
 exact absurd rfl c1
theorem Cm (W0 : World) (A : List HP) (p : Option Addr) (h : Zo jc p A) : aC Tryz.prog W0 24 [.pointer p] A (fun v B => v = .pointer none ∧ B = A) := by
 refine aF func24 ntmps24 rfl rfl ?_
 refine ae (ah (aa rfl (ai rfl) (ag (ab (ae (ae (ah (aa rfl (ac rfl) (am rfl (aS io rfl (jw W0 _ p h)) ?_)))))))))
 rintro _ B_ ⟨rfl, hB_⟩
 obtain rfl := hB_.symm
 refine ag (ab ?_)
 refine ax rfl ?_ ?_
 intro c1
 refine ae (ah (aa rfl (ai rfl) (ag (ab (av (aD (au (.inl rfl) (.cons (ak rfl) .nil) ?_)))))))
 exact ⟨_, ⟨rfl, rfl⟩, inferInstance⟩
 intro c1
 exact absurd rfl c1
theorem Cn (W0 : World) (A : List HP) (p : Option Addr) (h : Zo jc p A) : aC Tryz.prog W0 15 [.pointer p] A (fun v B => v = .pointer none ∧ B = A) := by
 refine aF func15 ntmps15 rfl rfl ?_
 refine ae (ah (aa rfl (ai rfl) (ag (ab (ae (ae (ah (aa rfl (ac rfl) (am rfl (aS io rfl (jw W0 _ p h)) ?_)))))))))
 rintro _ B_ ⟨rfl, hB_⟩
 obtain rfl := hB_.symm
 refine ag (ab ?_)
 refine ax rfl ?_ ?_
 intro c1
 refine ae (ah (aa rfl (ai rfl) (ag (ab (av (aD (au (.inl rfl) (.cons (ak rfl) .nil) ?_)))))))
 exact ⟨_, ⟨rfl, rfl⟩, inferInstance⟩
 intro c1
 exact absurd rfl c1
theorem vw (W0 : World) (A : List HP) (p : Option Addr) (h : Zo jc p A) : aC Tryz.prog W0 25 [.pointer p] A (fun v B => v = .agg #[.int .i64 0, .slice none 0 0, .slice none 0 0, .slice none 0 0, .slice none 0 0, .slice none 0 0, .int .i64 0, .int .i64 0] ∧ B = A) := by
 refine aF func25 ntmps25 rfl rfl ?_
 refine ae (ah (am rfl (dd rW) ?_))
 rintro _ _ ⟨b1, rfl, rfl⟩
 refine ag (ab (ae (ae (ah (aa rfl (ac rfl) (am rfl (aS io rfl (jw W0 _ p h.cons)) ?_))))))
 rintro _ B_ ⟨rfl, hB_⟩
 obtain rfl := hB_.symm
 refine ag (ab ?_)
 refine ax rfl ?_ ?_
 intro c1
 refine ae (ah (aa rfl (bQ bw rW (aE az (aE du (aE ie (aE fh (aE fg (aE iS (aE az (aE az bP)))))))) bO) ?_))
 refine bE (cK bS rfl rfl rfl rfl rfl) ?_
 rintro _ _ rfl
 refine ag (ab (av (aD (au (.inl rfl) (.cons (fj cm bS rfl rfl) .nil) ?_))))
 exact ⟨_, ⟨rfl, rfl⟩, inferInstance⟩
 intro c1
 exact absurd rfl c1
theorem vx (W0 : World) (A : List HP) (p : Option Addr) (h : Zo jc p A) (g : Option Addr) (i : Int) : aC Tryz.prog W0 20 [.pointer p, .pointer g, .int .i64 i] A (fun v B => v = .int .i64 0 ∧ B = A) := by
 refine aF func20 ntmps20 rfl rfl ?_
 refine ae (ah (aa rfl (ai rfl) (ag (ab (ae (ae (ah (aa rfl (ac rfl) (am rfl (aS io rfl (jw W0 _ p h)) ?_)))))))))
 rintro _ B_ ⟨rfl, hB_⟩
 obtain rfl := hB_.symm
 refine aa rfl (ac rfl) ?_
 refine bA rfl rfl rfl ?_ ?_
 intro g1_3
 refine al rfl rfl rfl rfl (aa rfl (aT rfl rfl) (ag (ab (bR rfl (ae (ah (aa rfl (ai rfl) (ag (ab (av (aD (au (.inl rfl) (.cons (ak rfl) .nil) ?_))))))))))))
 exact ⟨_, ⟨rfl, rfl⟩, inferInstance⟩
 intro g1_3
 exact absurd rfl g1_3
theorem vy (W0 : World) (A : List HP) (p : Option Addr) (h : Zo jc p A) (a : Option Addr) (n c : Nat) (i : Int) : aC Tryz.prog W0 14 [.pointer p, .slice a n c, .int .i64 i] A (fun v B => v = .tuple #[.int .i64 7, .int .i64 0] ∧ B = A) := by
 refine aF wx ntmps14 rfl rfl ?_
 refine ae (ah (aa rfl (ai rfl) (aa rfl (ai rfl) (ag (ab (ae (ae (ah (aa rfl (ac rfl) (am rfl (aS io rfl (jw W0 _ p h)) ?_))))))))))
 rintro _ B_ ⟨rfl, hB_⟩
 obtain rfl := hB_.symm
 refine aa rfl (ac rfl) ?_
 refine bA rfl rfl rfl ?_ ?_
 intro g1_3
 refine al rfl rfl rfl rfl (aa rfl (aT rfl rfl) (aa rfl (ac rfl) (al rfl rfl rfl rfl (al rfl rfl rfl rfl (al rfl rfl rfl rfl (al rfl rfl rfl rfl (aa rfl (aT rfl rfl) (aa rfl (ac rfl) (al rfl rfl rfl rfl (al rfl rfl rfl rfl (al rfl rfl rfl rfl (al rfl rfl rfl rfl (al rfl rfl rfl rfl (aa rfl (aT rfl rfl) (ag (ab (bR rfl (ae (ah (aa rfl (ai rfl) (aa rfl (ai rfl) (ag (ab ?_)))))))))))))))))))))))
 refine av (aD (au (.inl rfl) (.cons (ak rfl) (.cons (ak rfl) .nil)) ?_))
 exact ⟨_, ⟨rfl, rfl⟩, inferInstance⟩
 intro g1_3
 exact absurd rfl g1_3
theorem Co (hb : Nat) (cf : Cfg) (ps pb db qb gb : Nat) (i : Int) : aC Tryz.prog W0 14 [pV hb, .slice none 0 0, .int .i64 i] (pt hb (aw (dV cf ps pb db qb gb) 68) :: R) (fun v B => v = .tuple #[.int .i64 7, .int .i64 0] ∧ B = pt hb (aw (dV cf ps pb db qb gb) 68) :: R) := by
 refine aF wx ntmps14 rfl rfl ?_
 refine ae (ah (aa rfl (ai rfl) (aa rfl (ai rfl) (ag (ab (ae (ae (ah (aa rfl (ac rfl) (am rfl (bz io rfl (mo hb cf ps pb db qb gb)) ?_))))))))))
 rintro _ B_ ⟨rfl, hB_⟩
 obtain rfl := hB_.symm
 refine aa rfl (ac rfl) ?_
 refine bA rfl rfl rfl ?_ ?_
 intro g1_3
 exact absurd g1_3 (by decide)
 intro g1_3
 refine aa rfl (ac rfl) (ar rfl rfl (aa rfl (aY rfl rfl) (aa rfl (aJ rfl rfl) (aa rfl (ac rfl) ?_))))
 refine bA rfl rfl rfl ?_ ?_
 intro g1_7
 refine al rfl rfl rfl rfl (al rfl rfl rfl rfl (al rfl rfl rfl rfl (aa rfl (aT rfl rfl) (aa rfl (ac rfl) (al rfl rfl rfl rfl (al rfl rfl rfl rfl (al rfl rfl rfl rfl (al rfl rfl rfl rfl (al rfl rfl rfl rfl (aa rfl (aT rfl rfl) (ag (ab (bR rfl (ae (ah (aa rfl (ai rfl) (aa rfl (ai rfl) (ag (ab (av (aD (au (.inl rfl) (.cons (ak rfl) (.cons (ak rfl) .nil)) ?_))))))))))))))))))))))
 exact ⟨_, ⟨rfl, rfl⟩, inferInstance⟩
 intro g1_7
 refine aa rfl (ac rfl) (ar rfl rfl (aa rfl (ac rfl) (ar rfl rfl (aa rfl (bq hJ rfl) (ar rfl rfl (aa rfl (cF rfl rfl) (aa rfl (aJ rfl rfl) (aa rfl (ac rfl) ?_))))))))
 refine bA rfl rfl rfl ?_ ?_
 intro g1_13
 refine al rfl rfl rfl rfl (al rfl rfl rfl rfl (al rfl rfl rfl rfl (al rfl rfl rfl rfl (aa rfl (aT rfl rfl) (ag (ab (bR rfl (ae (ah (aa rfl (ai rfl) (aa rfl (ai rfl) (ag (ab (av (aD (au (.inl rfl) (.cons (ak rfl) (.cons (ak rfl) .nil)) ?_))))))))))))))))
 exact ⟨_, ⟨rfl, rfl⟩, inferInstance⟩
 intro g1_13
 omega
theorem Cp (hb : Nat) (cf : Cfg) (ps pb db qb gb : Nat) (i : Int) : aC Tryz.prog W0 20 [pV hb, .pointer none, .int .i64 i] (pt hb (aw (dV cf ps pb db qb gb) 68) :: R) (fun v B => v = .int .i64 0 ∧ B = pt hb (aw (dV cf ps pb db qb gb) 68) :: R) := by
 refine aF func20 ntmps20 rfl rfl ?_
 refine ae (ah (aa rfl (ai rfl) (ag (ab (ae (ae (ah (aa rfl (ac rfl) (am rfl (bz io rfl (mo hb cf ps pb db qb gb)) ?_)))))))))
 rintro _ B_ ⟨rfl, hB_⟩
 obtain rfl := hB_.symm
 refine aa rfl (ac rfl) ?_
 refine bA rfl rfl rfl ?_ ?_
 intro g1_3
 exact absurd g1_3 (by decide)
 intro g1_3
 refine aa rfl (ac rfl) (ar rfl rfl (aa rfl (dl rU rfl rfl) (aa rfl (aJ rfl rfl) (ag (ab ?_)))))
 refine ax rfl ?_ ?_
 intro c1
 refine ae (ah (aa rfl (ai rfl) (ag (ab (av (aD (au (.inl rfl) (.cons (ak rfl) .nil) ?_)))))))
 exact ⟨_, ⟨rfl, rfl⟩, inferInstance⟩
 intro c1
 exact absurd rfl c1
theorem Cq (W0 : World) (b1 b2 b3 b4 b5 : Nat) (R : List HP) :
    aC Tryz.prog W0 19 [.agg (cj (eh b1 b2 b3 b4 b5)).toArray, .slice none 0 0] (mp b1 b2 b3 b4 b5 R)
      (fun v B => ∃ hb ps pb db qb gb, v = .tuple #[pV hb, .int .i64 0] ∧ B = pt hb (aw (dV (eh b1 b2 b3 b4 b5) ps pb db qb gb) 68) :: R) := by
 refine fun w hO => (u7 (fun W hW => vl W [] (eh b1 b2 b3 b4 b5) (vt hW) (vr b1 b2 b3 b4 b5)) w hO).mono ?_
 rintro e w' ⟨v, B, rfl, ⟨C, ⟨hb, ps, pb, db, qb, gb, x, rfl, rfl⟩, rfl⟩, hO'⟩
 refine ⟨_, _, rfl, ⟨hb, ps, pb, db, qb, gb, rfl, rfl⟩, hO'.ent ?_⟩
 exact (inferInstance : Ent (pt hb (aw (dV (eh b1 b2 b3 b4 b5) ps pb db qb gb) 68) :: cy ps (List.replicate (bD (eh b1 b2 b3 b4 b5)) bT) :: d6 pb (ps, cX (eh b1 b2 b3 b4 b5) (bD (eh b1 b2 b3 b4 b5))) :: j9 db x :: m7 qb (fp (eh b1 b2 b3 b4 b5).pl) :: pt gb (jt (eh b1 b2 b3 b4 b5).cats (eh b1 b2 b3 b4 b5).gate (eh b1 b2 b3 b4 b5).quota) :: mp b1 b2 b3 b4 b5 R) (pt hb (aw (dV (eh b1 b2 b3 b4 b5) ps pb db qb gb) 68) :: R))
theorem Cr (W0 : World) (i : Int) : aC Tryz.prog W0 5 [.int .i64 i] [] (fun v B => v = .bool true ∧ B = []) := by
 refine aF wz ntmps5 rfl rfl ?_
 refine ae (ah (aa rfl (ai rfl) (ag (ab (ae (ah (aa rfl (ai rfl) (ag (ab (ae (ah (am rfl (dd CG) ?_))))))))))))
 rintro _ _ ⟨bu, rfl, rfl⟩
 refine ag (ab (ae (ah (am rfl (aS wy rfl (rm)) ?_))))
 rintro _ B_ ⟨b1, b2, b3, b4, b5, rfl, hB_⟩
 obtain rfl := hB_.symm
 refine am rfl (aS call12 rfl (vv W0 b1 b2 b3 b4 b5 _)) ?_
 rintro _ B_ ⟨hb, ps, pb, db, qb, gb, wb, a, cap, a2, n2, cap2, g0, g1, rfl, hB_⟩
 obtain rfl := hB_.symm
 refine aa rfl (ac rfl) (aa rfl (aZ rfl rfl) (aa rfl (aZ rfl rfl) (aa rfl (aZ rfl rfl) (aa rfl (aZ rfl rfl) (aa rfl (aZ rfl rfl) (aa rfl (ai rfl) (aa rfl (ai rfl) (aa rfl (ai rfl) (aa rfl (ai rfl) (aa rfl (ai rfl) (ag (ab (ae (ae (ah (aa rfl (ac rfl) (aa rfl (bN rfl) (aa rfl (ac rfl) ?_))))))))))))))))))
 refine bA rfl rfl rfl ?_ ?_
 intro g4_3
 exact absurd g4_3 (by decide)
 intro g4_3
 refine aa rfl (ac rfl) (ar rfl rfl (aa rfl (bq hJ rfl) (ar rfl rfl (aa rfl (co rfl rfl) (aa rfl (aJ rfl rfl) (ag (ab ?_)))))))
 refine ax rfl ?_ ?_
 intro c4
 first | exact absurd c4 (by decide) | (simp at c4)
 intro c4
 refine aB (ab (ae (ah (aa rfl (ac rfl) (aa rfl (ac rfl) (aa rfl (ac rfl) (am rfl (aS rX rfl (vy W0 _ none (.inl rfl) a [g0, g1].length cap i)) ?_)))))))
 rintro _ B_ ⟨rfl, hB_⟩
 obtain rfl := hB_.symm
 refine aa rfl (ac rfl) (aa rfl (aZ rfl rfl) (aa rfl (aZ rfl rfl) (aa rfl (ai rfl) (aa rfl (ai rfl) (ag (ab (ae (ah (aa rfl (ac rfl) (aa rfl (ac rfl) (am rfl (aS rX rfl (vy W0 _ (some ⟨bu, 0, none⟩) (.inr ⟨bu, rfl, inferInstance⟩) a [g0, g1].length cap i)) ?_)))))))))))
 rintro _ B_ ⟨rfl, hB_⟩
 obtain rfl := hB_.symm
 refine aa rfl (ac rfl) (aa rfl (aZ rfl rfl) (aa rfl (aZ rfl rfl) (aa rfl (ai rfl) (aa rfl (ai rfl) (ag (ab (ae (ah (am rfl (aS wy rfl (rm)) ?_)))))))))
 rintro _ B_ ⟨d1, d2, d3, d4, d5, rfl, hB_⟩
 obtain rfl := hB_.symm
 refine am rfl (aS call19 rfl (Cq W0 d1 d2 d3 d4 d5 _)) ?_
 rintro _ B_ ⟨kb, ps2, pb2, db2, qb2, gb2, rfl, hB_⟩
 obtain rfl := hB_.symm
 refine aa rfl (ac rfl) (aa rfl (aZ rfl rfl) (aa rfl (aZ rfl rfl) (aa rfl (ai rfl) (aa rfl (ai rfl) (ag (ab (ae (ah (aa rfl (ac rfl) (aa rfl (ac rfl) (am rfl (bz rX rfl (Co kb (eh d1 d2 d3 d4 d5) ps2 pb2 db2 qb2 gb2 i)) ?_)))))))))))
 rintro _ B_ ⟨rfl, hB_⟩
 obtain rfl := hB_.symm
 refine aa rfl (ac rfl) (aa rfl (aZ rfl rfl) (aa rfl (aZ rfl rfl) (aa rfl (ai rfl) (aa rfl (ai rfl) (ag (ab (ae ?_)))))))
 refine dP (r := osl 50 1) (b := .slice a [g0, g1].length cap) (ge (fun h1 h2 => by cases h2) fun lg nn c2 sp h1 h2 h3 h4 h5 => ?_)
 cases h1
 refine cY [(lg, 0, _)] 74 cV rfl (aV aK) (fun hS => ?_)
 refine aj 0 rfl rfl (by kernel_rfl) (by kernel_rfl) (by kernel_rfl) rfl hS (ac rfl) ?_
 refine aj 1 rfl rfl (by kernel_rfl) (by kernel_rfl) (by kernel_rfl) rfl hS (cz rfl rfl) ?_
 refine aj 2 rfl rfl (by kernel_rfl) (by kernel_rfl) (by kernel_rfl) rfl hS (ac rfl) ?_
 refine f7 (t := 59) rfl ?_ ?_
 intro g10_3
 refine aj 3 rfl rfl (by kernel_rfl) (by kernel_rfl) (by kernel_rfl) rfl hS (ac rfl) ?_
 refine aj 4 rfl rfl (by kernel_rfl) (by kernel_rfl) (by kernel_rfl) rfl hS (ac rfl) ?_
 refine aj 5 rfl rfl (by kernel_rfl) (by kernel_rfl) (by kernel_rfl) rfl hS (cz rfl rfl) ?_
 refine aj 6 rfl rfl (by kernel_rfl) (by kernel_rfl) (by kernel_rfl) rfl hS (aT rfl rfl) ?_
 refine aj 7 rfl rfl (by kernel_rfl) (by kernel_rfl) (by kernel_rfl) rfl hS (ac rfl) ?_
 refine f7 (t := 64) rfl ?_ ?_
 intro g10_8
 refine aj 8 rfl rfl (by kernel_rfl) (by kernel_rfl) (by kernel_rfl) rfl hS (ac rfl) ?_
 refine aj 9 rfl rfl (by kernel_rfl) (by kernel_rfl) (by kernel_rfl) rfl hS (ac rfl) ?_
 refine aj 10 rfl rfl (by kernel_rfl) (by kernel_rfl) (by kernel_rfl) rfl hS (cz rfl rfl) ?_
 refine aj 11 rfl rfl (by kernel_rfl) (by kernel_rfl) (by kernel_rfl) rfl hS (aT rfl rfl) ?_
 refine aj 12 rfl rfl (by kernel_rfl) (by kernel_rfl) (by kernel_rfl) rfl hS (ac rfl) ?_
 refine f7 (t := 69) rfl ?_ ?_
 intro g10_13
 refine aj 13 rfl rfl (by kernel_rfl) (by kernel_rfl) (by kernel_rfl) rfl hS (ac rfl) ?_
 refine aj 14 rfl rfl (by kernel_rfl) (by kernel_rfl) (by kernel_rfl) rfl hS (ac rfl) ?_
 refine aj 15 rfl rfl (by kernel_rfl) (by kernel_rfl) (by kernel_rfl) rfl hS (bC rfl rfl (by first | exact aW (by omega) | rfl)) ?_
 refine aj 16 rfl rfl (by kernel_rfl) (by kernel_rfl) (by kernel_rfl) rfl hS (ac rfl) ?_
 refine aj 17 rfl rfl (by kernel_rfl) (by kernel_rfl) (by kernel_rfl) rfl hS (bC rfl rfl (by first | exact aW (by omega) | rfl)) ?_
 refine aj 18 rfl rfl (by kernel_rfl) (by kernel_rfl) (by kernel_rfl) rfl hS (cz rfl rfl) ?_
 refine aj 19 rfl rfl (by kernel_rfl) (by kernel_rfl) (by kernel_rfl) rfl hS (aT rfl rfl) ?_
 refine aj 20 rfl rfl (by kernel_rfl) (by kernel_rfl) (by kernel_rfl) rfl hS (ac rfl) ?_
 refine f7 (t := 77) rfl ?_ ?_
 intro g10_21
 refine aj 21 rfl rfl (by kernel_rfl) (by kernel_rfl) (by kernel_rfl) rfl hS (ac rfl) ?_
 refine aj 22 rfl rfl (by kernel_rfl) (by kernel_rfl) (by kernel_rfl) rfl hS (ac rfl) ?_
 refine aj 23 rfl rfl (by kernel_rfl) (by kernel_rfl) (by kernel_rfl) rfl hS (bY hJ iJ rfl rfl (i := 0) rfl (show 0 < 2 by decide) (by first | exact Nat.zero_add _ | rfl)) ?_
 refine aj 24 rfl rfl (by kernel_rfl) (by kernel_rfl) (by kernel_rfl) rfl hS (ap jF rfl (aG (k := 0) rfl rfl)) ?_
 refine aj 26 rfl rfl (by kernel_rfl) (by kernel_rfl) (by kernel_rfl) rfl hS (ac rfl) ?_
 refine aj 27 rfl rfl (by kernel_rfl) (by kernel_rfl) (by kernel_rfl) rfl hS (bY hJ iJ rfl rfl (i := 0) rfl (show 0 < 2 by decide) (by first | exact Nat.zero_add _ | rfl)) ?_
 refine aj 28 rfl rfl (by kernel_rfl) (by kernel_rfl) (by kernel_rfl) rfl hS (ap jF rfl (aG (k := 0) rfl rfl)) ?_
 refine aj 31 rfl rfl (by kernel_rfl) (by kernel_rfl) (by kernel_rfl) rfl hS (ac rfl) ?_
 refine bB 25 (by kernel_rfl) rfl rfl (aS wA rfl (vx W0 _ none (.inl rfl) (some ⟨g0, 0, none⟩) 0)) rfl ?_; clear hS
 rintro _ B_ ⟨rfl, hB_⟩
 obtain rfl := hB_.symm
 refine ⟨(aV aK), fun hS => ?_⟩
 refine bB 29 (by kernel_rfl) rfl rfl (aS wA rfl (vx W0 _ (some ⟨bu, 0, none⟩) (.inr ⟨bu, rfl, inferInstance⟩) (some ⟨g0, 0, none⟩) 0)) rfl ?_; clear hS
 rintro _ B_ ⟨rfl, hB_⟩
 obtain rfl := hB_.symm
 refine ⟨(aV aK), fun hS => ?_⟩
 refine aj 30 rfl rfl (by kernel_rfl) (by kernel_rfl) (by kernel_rfl) rfl hS (bC rfl rfl (by first | exact aW (by omega) | rfl)) ?_
 refine bB 32 (by kernel_rfl) rfl rfl (bz wA rfl (Cp kb (eh d1 d2 d3 d4 d5) ps2 pb2 db2 qb2 gb2 0)) rfl ?_; clear hS
 rintro _ B_ ⟨rfl, hB_⟩
 obtain rfl := hB_.symm
 refine ⟨(aV aK), fun hS => ?_⟩
 refine aj 33 rfl rfl (by kernel_rfl) (by kernel_rfl) (by kernel_rfl) rfl hS (bC rfl rfl (by first | exact aW (by omega) | rfl)) ?_
 refine aj 34 rfl rfl (by kernel_rfl) (by kernel_rfl) (by kernel_rfl) rfl hS (cz rfl rfl) ?_
 refine aj 35 rfl rfl (by kernel_rfl) (by kernel_rfl) (by kernel_rfl) rfl hS (aT rfl rfl) ?_
 refine aj 36 rfl rfl (by kernel_rfl) (by kernel_rfl) (by kernel_rfl) rfl hS (ac rfl) ?_
 refine f7 (t := 93) rfl ?_ ?_
 intro g10_37
 refine aj 37 rfl rfl (by kernel_rfl) (by kernel_rfl) (by kernel_rfl) rfl hS (ac rfl) ?_
 refine bB 38 (by kernel_rfl) rfl rfl (aS call21 rfl (Cj W0 _ none (.inl rfl))) rfl ?_; clear hS
 rintro _ B_ ⟨rfl, hB_⟩
 obtain rfl := hB_.symm
 refine ⟨(aV aK), fun hS => ?_⟩
 refine aj 39 rfl rfl (by kernel_rfl) (by kernel_rfl) (by kernel_rfl) rfl hS (dl ov rfl rfl) ?_
 refine aj 40 rfl rfl (by kernel_rfl) (by kernel_rfl) (by kernel_rfl) rfl hS (aT rfl rfl) ?_
 refine aj 41 rfl rfl (by kernel_rfl) (by kernel_rfl) (by kernel_rfl) rfl hS (ac rfl) ?_
 refine f7 (t := 98) rfl ?_ ?_
 intro g10_42
 refine bB 42 (by kernel_rfl) rfl rfl (aS call22 rfl (Ck W0 _ (some ⟨bu, 0, none⟩) (.inr ⟨bu, rfl, inferInstance⟩))) rfl ?_; clear hS
 rintro _ B_ ⟨rfl, hB_⟩
 obtain rfl := hB_.symm
 refine ⟨(aV aK), fun hS => ?_⟩
 refine aj 43 rfl rfl (by kernel_rfl) (by kernel_rfl) (by kernel_rfl) rfl hS (dl vC rfl rfl) ?_
 refine aj 44 rfl rfl (by kernel_rfl) (by kernel_rfl) (by kernel_rfl) rfl hS (aT rfl rfl) ?_
 refine aj 45 rfl rfl (by kernel_rfl) (by kernel_rfl) (by kernel_rfl) rfl hS (ac rfl) ?_
 refine f7 (t := 102) rfl ?_ ?_
 intro g10_46
 refine aj 46 rfl rfl (by kernel_rfl) (by kernel_rfl) (by kernel_rfl) rfl hS (ac rfl) ?_
 refine bB 47 (by kernel_rfl) rfl rfl (aS call23 rfl (Cl W0 _ none (.inl rfl))) rfl ?_; clear hS
 rintro _ B_ ⟨rfl, hB_⟩
 obtain rfl := hB_.symm
 refine ⟨(aV aK), fun hS => ?_⟩
 refine aj 48 rfl rfl (by kernel_rfl) (by kernel_rfl) (by kernel_rfl) rfl hS (dl underlying65 rfl rfl) ?_
 refine aj 49 rfl rfl (by kernel_rfl) (by kernel_rfl) (by kernel_rfl) rfl hS (aT rfl rfl) ?_
 refine aj 50 rfl rfl (by kernel_rfl) (by kernel_rfl) (by kernel_rfl) rfl hS (ac rfl) ?_
 refine f7 (t := 107) rfl ?_ ?_
 intro g10_51
 refine bB 51 (by kernel_rfl) rfl rfl (aS call24 rfl (Cm W0 _ (some ⟨bu, 0, none⟩) (.inr ⟨bu, rfl, inferInstance⟩))) rfl ?_; clear hS
 rintro _ B_ ⟨rfl, hB_⟩
 obtain rfl := hB_.symm
 refine ⟨(aV aK), fun hS => ?_⟩
 refine aj 52 rfl rfl (by kernel_rfl) (by kernel_rfl) (by kernel_rfl) rfl hS (dl underlying66 rfl rfl) ?_
 refine aj 53 rfl rfl (by kernel_rfl) (by kernel_rfl) (by kernel_rfl) rfl hS (aT rfl rfl) ?_
 refine aj 54 rfl rfl (by kernel_rfl) (by kernel_rfl) (by kernel_rfl) rfl hS (ac rfl) ?_
 refine f7 (t := 111) rfl ?_ ?_
 intro g10_55
 refine aj 55 rfl rfl (by kernel_rfl) (by kernel_rfl) (by kernel_rfl) rfl hS (ac rfl) ?_
 refine bB 56 (by kernel_rfl) rfl rfl (aS call15 rfl (Cn W0 _ none (.inl rfl))) rfl ?_; clear hS
 rintro _ B_ ⟨rfl, hB_⟩
 obtain rfl := hB_.symm
 refine ⟨(aV aK), fun hS => ?_⟩
 refine aj 57 rfl rfl (by kernel_rfl) (by kernel_rfl) (by kernel_rfl) rfl hS (dl underlying55 rfl rfl) ?_
 refine aj 58 rfl rfl (by kernel_rfl) (by kernel_rfl) (by kernel_rfl) rfl hS (aT rfl rfl) ?_
 refine aj 59 rfl rfl (by kernel_rfl) (by kernel_rfl) (by kernel_rfl) rfl hS (ac rfl) ?_
 refine f7 (t := 116) rfl ?_ ?_
 intro g10_60
 refine aj 60 rfl rfl (by kernel_rfl) (by kernel_rfl) (by kernel_rfl) rfl hS (ac rfl) ?_
 refine bB 61 (by kernel_rfl) rfl rfl (aS call25 rfl (vw W0 _ none (.inl rfl))) rfl ?_; clear hS
 rintro _ B_ ⟨rfl, hB_⟩
 obtain rfl := hB_.symm
 refine ⟨(aV aK), fun hS => ?_⟩
 refine aj 62 rfl rfl (by kernel_rfl) (by kernel_rfl) (by kernel_rfl) rfl hS (v5 rfl bw rfl dy rfl) ?_
 refine aj 63 rfl rfl (by kernel_rfl) (by kernel_rfl) (by kernel_rfl) rfl hS (bq dj rfl) ?_
 refine bB 64 (by kernel_rfl) rfl rfl (aS call25 rfl (vw W0 _ (some ⟨bu, 0, none⟩) (.inr ⟨bu, rfl, inferInstance⟩))) rfl ?_; clear hS
 rintro _ B_ ⟨rfl, hB_⟩
 obtain rfl := hB_.symm
 refine ⟨(aV aK), fun hS => ?_⟩
 refine aj 65 rfl rfl (by kernel_rfl) (by kernel_rfl) (by kernel_rfl) rfl hS (v5 rfl bw rfl dy rfl) ?_
 refine aj 66 rfl rfl (by kernel_rfl) (by kernel_rfl) (by kernel_rfl) rfl hS (bq dj rfl) ?_
 refine aj 67 rfl rfl (by kernel_rfl) (by kernel_rfl) (by kernel_rfl) rfl hS (bC rfl rfl (by first | exact aW (by omega) | rfl)) ?_
 refine aj 68 rfl rfl (by kernel_rfl) (by kernel_rfl) (by kernel_rfl) rfl hS (cz rfl rfl) ?_
 refine aj 69 rfl rfl (by kernel_rfl) (by kernel_rfl) (by kernel_rfl) rfl hS (aT rfl rfl) ?_
 refine aj 70 rfl rfl (by kernel_rfl) (by kernel_rfl) (by kernel_rfl) rfl hS (ac rfl) ?_
 refine f7 (t := 127) rfl ?_ ?_
 intro g10_71
 refine bB 71 (by kernel_rfl) rfl rfl (aS call11 rfl (Ci)) rfl ?_; clear hS
 rintro _ B_ ⟨rfl, hB_⟩
 obtain rfl := hB_.symm
 refine ⟨(aV aK), fun hS => ?_⟩
 refine aj 72 rfl rfl (by kernel_rfl) (by kernel_rfl) (by kernel_rfl) rfl hS (aT rfl rfl) ?_
 refine aj 73 rfl rfl (by kernel_rfl) (by kernel_rfl) (by kernel_rfl) rfl hS (ai rfl) ?_
 refine cg (by kernel_rfl) ?_; clear hS
 refine ab (av (au (.inl rfl) (.cons (ak rfl) .nil) ?_))
 exact ⟨_, ⟨rfl, rfl⟩, inferInstance⟩
 intro g10_71
 exact absurd (by decide) g10_71
 intro g10_60
 exact absurd rfl g10_60
 intro g10_55
 exact absurd rfl g10_55
 intro g10_51
 exact absurd rfl g10_51
 intro g10_46
 exact absurd rfl g10_46
 intro g10_42
 exact absurd rfl g10_42
 intro g10_37
 exact absurd (by decide) g10_37
 intro g10_21
 exact absurd (by decide) g10_21
 intro g10_13
 exact absurd (by decide) g10_13
 intro g10_8
 exact absurd (by decide) g10_8
 intro g10_3
 exact absurd (by decide) g10_3
end
section
open Go.ChangeShapes Go.WideShapes Go.ChangeAt Go.RowKit
set_option linter.unusedSimpArgs false
set_option linter.unusedVariables false
theorem own : ownKnob Tryz.prog.godebug = none := by kernel_rfl
theorem Cs : laidOutB Tryz.prog = true := by kernel_rfl
variable {W : World} {v : Value}
end
end Go.Proofs.YtofillmoflhijaaGreat
