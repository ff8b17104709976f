/-
  Part 5 of the proof of HcallWho: rules, and walks of functions. Conditions: none.
-/
import Derived.Test.YtofillmoflhijaaGreatHcallWhoD
namespace Go.Proofs.YtofillmoflhijaaGreat
open Go.Proofs.Tryz
set_option linter.unusedSimpArgs false
set_option linter.unusedVariables false
set_option maxRecDepth 20000
set_option linter.defProp false
set_option synthInstance.maxSize 8192
set_option synthInstance.maxHeartbeats 2000000
variable {W0 : World} {R : List HP}
section
open Go.RowKit
@[reducible] def E9 (w : Bool) (s : Int) : List Value := [.bool w, .bool false, .int .i64 0, .int .i64 s]
@[reducible] def Ea (w : Bool) (s n : Int) (row : Value) : List Value := [.bool false, .bool false, .int .i64 0, .int .i64 0, .bool false, .bool false, .int .i64 0, .int .i64 0, .bool false, .bool false, .int .i64 0, .int .i64 0, .bool false, .bool false, .int .i64 0, .int .i64 0, .bool w, .bool false, .int .i64 0, .int .i64 s, .bool false, .bool false, .int .i64 0, .int .i64 0, .bool false, .bool false, .int .i64 0, .int .i64 0, .bool false, .bool false, .int .i64 0, .int .i64 0, row, .int .i64 n, .bool true]
abbrev fW (w : Bool) (s n : Int) (row : Value) : Obj := ax (Ea w s n row) 285
theorem Eb : iu = fW false 0 0 du := rfl
theorem Ec (vb : Nat) (w : Bool) (s n : Int) (row : Value) : aC Tryz.prog W0 271 [pV vb] (pt vb (fW w s n row) :: R) (fun v B => v = .bool false ∧ B = pt vb (fW w s n row) :: R) := by
 refine aG func271 ntmps271 rfl rfl ?_
 refine ae (ah (aa rfl (ai rfl) (ag (ab (ae (ah (aa rfl (ac rfl) (aa rfl (dv underlying135 rfl rfl) (aa rfl (ac rfl) ?_)))))))))
 refine bC rfl rfl rfl ?_ ?_
 intro g1_3
 cases g1_3
 intro g1_3
 refine aa rfl (ac rfl) (ar rfl rfl (aa rfl (aF rfl) (ar rfl rfl ?_)))
 refine aa rfl (al rfl jv rfl cB rfl (by first | exact Nat.zero_add _ | rfl)) ?_
 refine ar rfl rfl (aa rfl (ao fM rfl (aA rfl)) ?_)
 refine ar rfl rfl (aa rfl (bM rfl) (aa rfl (aM rfl rfl) (aa rfl (ai rfl) (ag (ab (av (au (.inl rfl) (.cons (ak rfl) .nil) ?_)))))))
 exact ⟨_, ⟨rfl, rfl⟩, inferInstance⟩
theorem Ed (vb : Nat) (w : Bool) (s n : Int) (row : Value) : aC Tryz.prog W0 135 [pV vb, .int .i64 4] (pt vb (fW w s n row) :: R) (fun v B => v = .int .i64 0 ∧ B = pt vb (fW w s n row) :: R) := by
 refine aG func135 ntmps135 rfl rfl ?_
 refine ae (ah (aa rfl (ai rfl) (ag (ab (ae (aW (ae (ah (aa rfl (ac rfl) (am rfl (bn call271 rfl (Ec vb w s n row)) ?_))))))))))
 rintro _ B_ ⟨rfl, hB_⟩
 obtain rfl := hB_.symm
 refine aa rfl (ai rfl) (ag (ab ?_))
 refine aw rfl ?_ ?_
 intro c1
 exact absurd c1 (by decide)
 intro c1
 refine ae (ae (ah (aa rfl (ac rfl) (aa rfl (b0 rfl rfl) (aa rfl (ai rfl) (ag (ab ?_)))))))
 refine aw rfl ?_ ?_
 intro c3
 exact absurd c3 (by decide)
 intro c3
 refine ah (aa rfl (ac rfl) (aa rfl (cK rfl rfl) (aa rfl (ai rfl) (ag (ab ?_)))))
 refine aw rfl ?_ ?_
 intro c4
 exact absurd c4 (by decide)
 intro c4
 refine aB (bH (ab (ae (ah (aa rfl (ai rfl) (ag (ab (av (au (.inl rfl) (.cons (ak rfl) .nil) ?_)))))))))
 exact ⟨_, ⟨rfl, rfl⟩, inferInstance⟩
theorem Ee (vb : Nat) (w : Bool) (s n : Int) : aC Tryz.prog W0 272 [pV vb, .int .i64 4] (pt vb (fW w s n du) :: R) (fun v B => v = .tuple #[] ∧ B = pt vb (fW w s n du) :: R) := by
 refine aG func272 ntmps272 rfl rfl ?_
 refine ae (ah (aa rfl (ac rfl) (aa rfl (aF rfl) ?_)))
 refine aa rfl (al rfl jv rfl y5 rfl (by first | exact Nat.zero_add _ | rfl)) ?_
 refine aa rfl (al rfl pX rfl ml rfl (by first | exact Nat.zero_add _ | rfl)) ?_
 refine aa rfl (ao tA rfl (aA rfl)) ?_
 refine aa rfl (bu nW rfl) (aa rfl (ac rfl) (ag (ab (aW ?_))))
 refine cT (fun i : Nat => i = 0) (fun i => [(0, pV vb), (1, .int .i64 4), (10, du), (11, .int .i64 0), (12, .int .i64 i)]) (fun _ => pt vb (fW w s n du) :: R) (fun _ => 0) 0 ?_ ?_ ?_ ?_
 rfl
 · repeat (first | exact aX | refine aV rfl ?_)
 exact inferInstance
 intro i hi
 subst hi
 refine ae (ah (aa rfl (b0 rfl rfl) (ag (ab (ae ?_)))))
 refine aw rfl ?_ ?_
 intro c1
 exact absurd c1 (by decide)
 intro c1
 refine cj (bi (bi (co (au (.inr rfl) .nil ?_))))
 exact ⟨_, ⟨rfl, rfl⟩, inferInstance⟩
abbrev sK (vb : Nat) : Value := .pointer (some ⟨vb, 32, none⟩)
abbrev xl : Value := .agg #[.int .i64 4, .int .i64 0, .int .i64 1]
theorem Ef (vb : Nat) : aC Tryz.prog W0 488 [sK vb, .iface 438 xl] (pt vb (fW true 1 1 du) :: R)
    (fun v B => v = .tuple #[] ∧ ∃ a c, B = pt vb (fW true 1 1 (.slice a 1 c)) :: R) := by
 refine jk (B := osl 438 3 (.slice none 0 0) [] :: pt vb (fW true 1 1 du) :: R) fH ?_
 refine aG func488 ntmps488 rfl rfl ?_
 refine cA [] 12 cz rfl aJ (fun hS => ?_)
 refine aj 0 rfl rfl (by kernel_rfl) (by kernel_rfl) (by kernel_rfl) rfl hS (ac rfl) ?_
 refine aj 1 rfl rfl (by kernel_rfl) (by kernel_rfl) (by kernel_rfl) rfl hS (ac rfl) ?_
 refine aj 2 rfl rfl (by kernel_rfl) (by kernel_rfl) (by kernel_rfl) rfl hS (aF rfl) ?_
 refine aj 3 rfl rfl (by kernel_rfl) (by kernel_rfl) (by kernel_rfl) rfl hS (al rfl pX rfl ml rfl (by first | exact Nat.zero_add _ | rfl)) ?_
 refine aj 5 rfl rfl (by kernel_rfl) (by kernel_rfl) (by kernel_rfl) rfl hS (ac rfl) ?_
 refine aj 6 rfl rfl (by kernel_rfl) (by kernel_rfl) (by kernel_rfl) rfl hS (oq yx (fun _ h => by cases h) rfl) ?_
 refine io (is := [4, 7]) (by kernel_rfl) rfl ⟨?_, ?_, trivial⟩
 skip
 refine eD rfl rfl (eC (ao tA rfl (aA rfl))) rfl ?_; clear hS
 rintro _ _ ⟨rfl, rfl⟩
 refine ⟨aJ, fun hS => ?_⟩
 refine bA 7 (by kernel_rfl) rfl rfl (g5 nW sizeOf438 yy rfl (eN rfl rfl fZ) rfl (by decide) (by decide) (by decide)) rfl ?_; clear hS
 rintro _ _ ⟨b1, rfl, rfl⟩
 refine ⟨aJ, fun hS => ?_⟩
 refine bA 8 (by kernel_rfl) rfl rfl (dP (sz := 3) (by_ := 24) (info := Tryz.t438) nW (by kernel_rfl) rfl rfl rfl rfl (by decide) rfl rfl dQ rfl rfl (by simp [maxLen]) (by decide)) rfl ?_; clear hS
 rintro _ _ ⟨a3, c3, rfl, rfl⟩
 refine ⟨aJ, fun hS => ?_⟩
 refine aj 9 rfl rfl (by kernel_rfl) (by kernel_rfl) (by kernel_rfl) rfl hS (aF rfl) ?_
 refine aj 10 rfl rfl (by kernel_rfl) (by kernel_rfl) (by kernel_rfl) rfl hS (al rfl pX rfl ml rfl (by first | exact Nat.zero_add _ | rfl)) ?_
 refine bA 11 (by kernel_rfl) rfl rfl (cm ml rfl rfl rfl (Nat.le_of_ble_eq_true rfl) SetL.eq) rfl ?_; clear hS
 rintro _ _ rfl
 refine ⟨aJ, fun hS => ?_⟩
 refine bL (by kernel_rfl) ?_; clear hS
 refine au (.inr rfl) .nil ?_
 exact ⟨_, ⟨rfl, a3, c3, rfl⟩, inferInstance⟩
 skip
 refine eD rfl rfl (g5 nW sizeOf438 yy rfl (eN rfl rfl fZ) rfl (by decide) (by decide) (by decide)) rfl ?_; clear hS
 rintro _ _ ⟨b1, rfl, rfl⟩
 refine ⟨aJ, fun hS => ?_⟩
 refine bA 4 (by kernel_rfl) rfl rfl (eC (ao tA rfl (aA rfl))) rfl ?_; clear hS
 rintro _ _ ⟨rfl, rfl⟩
 refine ⟨aJ, fun hS => ?_⟩
 refine bA 8 (by kernel_rfl) rfl rfl (dP (sz := 3) (by_ := 24) (info := Tryz.t438) nW (by kernel_rfl) rfl rfl rfl rfl (by decide) rfl rfl dQ rfl rfl (by simp [maxLen]) (by decide)) rfl ?_; clear hS
 rintro _ _ ⟨a3, c3, rfl, rfl⟩
 refine ⟨aJ, fun hS => ?_⟩
 refine aj 9 rfl rfl (by kernel_rfl) (by kernel_rfl) (by kernel_rfl) rfl hS (aF rfl) ?_
 refine aj 10 rfl rfl (by kernel_rfl) (by kernel_rfl) (by kernel_rfl) rfl hS (al rfl pX rfl ml rfl (by first | exact Nat.zero_add _ | rfl)) ?_
 refine bA 11 (by kernel_rfl) rfl rfl (cm ml rfl rfl rfl (Nat.le_of_ble_eq_true rfl) SetL.eq) rfl ?_; clear hS
 rintro _ _ rfl
 refine ⟨aJ, fun hS => ?_⟩
 refine bL (by kernel_rfl) ?_; clear hS
 refine au (.inr rfl) .nil ?_
 exact ⟨_, ⟨rfl, a3, c3, rfl⟩, inferInstance⟩
theorem Eg (vb : Nat) (a : Option Addr) (c : Nat) : aC Tryz.prog W0 485 [sK vb] (pt vb (fW true 1 1 (.slice a 1 c)) :: R) (fun v B => v = .int .i64 1 ∧ B = pt vb (fW true 1 1 (.slice a 1 c)) :: R) := by
 refine aG func485 ntmps485 rfl rfl ?_
 refine ae (ah (aa rfl (ai rfl) (ag (ab (ae (ah (aa rfl (ac rfl) (aa rfl (aF rfl) ?_))))))))
 refine aa rfl (al rfl pX rfl ml rfl (by first | exact Nat.zero_add _ | rfl)) ?_
 refine aa rfl (ao tA rfl (aA rfl)) ?_
 refine aa rfl (bu nW rfl) (aa rfl (ai rfl) (ag (ab (av (au (.inl rfl) (.cons (ak rfl) .nil) ?_)))))
 exact ⟨_, ⟨rfl, rfl⟩, inferInstance⟩
theorem Eh (w : World) (a : Addr) : (method (Tryz.prog.types.size + Made.depth) 436 (.pointer (some a)) "Len").run Tryz.prog w = .ok (485, .pointer (some a)) w := by kernel_rfl
theorem Ei (w : World) (a : Addr) : (method (Tryz.prog.types.size + Made.depth) 436 (.pointer (some a)) "Push").run Tryz.prog w = .ok (488, .pointer (some a)) w := by kernel_rfl
theorem Ej (v : Value) : aC Tryz.prog W0 293 [v, .int .i64 0] R (fun v B => v = .tuple #[] ∧ B = R) := by
 refine aG xA ntmps293 rfl rfl ?_
 refine aW ?_
 refine cT (fun i : Nat => i = 0) (fun i => [(0, v), (1, .int .i64 i)]) (fun _ => R) (fun _ => 0) 0 ?_ ?_ ?_ ?_
 rfl
 · repeat (first | exact aX | refine aV rfl ?_)
 exact inferInstance
 intro i hi
 subst hi
 refine aW (ae (ah (aa rfl (ac rfl) ?_)))
 refine aa rfl (dX rfl rfl (by first | exact aZ (by omega) | rfl)) ?_
 refine aa rfl (qi rfl rfl (by decide) (by decide : IntKind.wrap .i64 (Int.tdiv (((0 : Nat) : Int) - 1) 2) = 0)) ?_
 refine aa rfl (ai rfl) (ag (ab (ae (ae (ah (aa rfl (ac rfl) (aa rfl (ac rfl) (aa rfl (cu rfl rfl) (aa rfl (ac rfl) ?_)))))))))
 refine bC rfl rfl rfl ?_ ?_
 intro g1_4
 refine ap rfl rfl rfl rfl (ap rfl rfl rfl rfl (ap rfl rfl rfl rfl (ap rfl rfl rfl rfl (aa rfl (aY rfl rfl) (ag (ab (cg rfl (cj (bi (eW rfl (bi (co (au (.inr rfl) .nil ?_)))))))))))))
 exact ⟨_, ⟨rfl, rfl⟩, inferInstance⟩
 intro g1_4
 exact absurd rfl g1_4
theorem Ek (vb : Nat) : aC Tryz.prog W0 176 [.iface 436 (sK vb), .iface 438 xl] (pt vb (fW true 1 1 du) :: R)
    (fun v B => v = .tuple #[] ∧ ∃ a c, B = pt vb (fW true 1 1 (.slice a 1 c)) :: R) := by
 refine aG xB ntmps176 rfl rfl ?_
 refine ae (ah (aa rfl (ac rfl) (aa rfl (ac rfl) ?_)))
 refine am rfl (fh rfl (fun w => Ei w _) call488 rfl (Ef vb)) ?_
 rintro _ _ ⟨rfl, a3, c3, rfl⟩
 refine ag (ab (ah (aa rfl (ac rfl) (aa rfl (ac rfl) ?_))))
 refine am rfl (fh rfl (fun w => Eh w _) call485 rfl (Eg vb a3 c3)) ?_
 rintro _ B_ ⟨rfl, hB_⟩
 obtain rfl := hB_.symm
 refine aa rfl (dX rfl rfl (by decide : IntKind.wrap .i64 (1 - 1) = 0)) ?_
 refine am rfl (aU xC rfl (Ej _)) ?_
 rintro _ B_ ⟨rfl, hB_⟩
 obtain rfl := hB_.symm
 refine ag (au (.inr rfl) .nil ?_)
 exact ⟨_, ⟨rfl, a3, c3, rfl⟩, inferInstance⟩
theorem El (vb : Nat) : aC Tryz.prog W0 136 [pV vb, .int .i64 4] (pt vb (fW true 1 1 du) :: R)
    (fun v B => v = .tuple #[] ∧ ∃ a c, B = pt vb (fW true 1 1 (.slice a 1 c)) :: R) := by
 refine aG func136 ntmps136 rfl rfl ?_
 refine ae (ah (aa rfl (ac rfl) (aa rfl (ac rfl) (am rfl (bn call272 rfl (Ee vb true 1 1)) ?_))))
 rintro _ B_ ⟨rfl, hB_⟩
 obtain rfl := hB_.symm
 refine ag (ab (ae (ah (aa rfl (ac rfl) (aa rfl (ac rfl) (aa rfl (aF rfl) ?_))))))
 refine aa rfl (al rfl jv rfl pQ rfl (by first | exact Nat.zero_add _ | rfl)) ?_
 refine aa rfl (dO tB nX rfl rfl (i := 4) rfl (by decide) (by first | exact Nat.zero_add _ | rfl)) ?_
 refine aa rfl (cV isAgg279 nX rfl (fN (b := vb) (off := 16) (vs := E9 true 1) rfl rfl) rfl) ?_
 refine am rfl (cM zeroValue279) ?_
 rintro _ _ ⟨bl, rfl, rfl⟩
 refine bD (cD nX rfl rfl rfl rfl rfl) ?_
 rintro _ _ rfl
 refine ag (ab (ae (ah ?_)))
 refine aa rfl (al rfl mm rfl cB rfl (by first | exact Nat.zero_add _ | rfl)) ?_
 refine aa rfl (ao fM rfl (aA rfl)) ?_
 refine aa rfl (ac rfl) ?_
 refine cJ rfl rfl rfl ?_ ?_
 intro g2_3
 refine aa rfl (al rfl mm rfl cB rfl (by first | exact Nat.zero_add _ | rfl)) ?_
 refine ar rfl rfl (aa rfl (ao fM rfl (aA rfl)) ?_)
 refine ar rfl rfl (aa rfl (bM rfl) (aa rfl (aY rfl rfl) (ag (ab ?_))))
 refine aw rfl ?_ ?_
 intro c2
 refine cA [(bl, 0, _)] 12 cz rfl (aK aJ) (fun hS => ?_)
 refine aj 0 rfl rfl (by kernel_rfl) (by kernel_rfl) (by kernel_rfl) rfl hS (ac rfl) ?_
 refine aj 1 rfl rfl (by kernel_rfl) (by kernel_rfl) (by kernel_rfl) rfl hS (aF rfl) ?_
 refine aj 2 rfl rfl (by kernel_rfl) (by kernel_rfl) (by kernel_rfl) rfl hS (al rfl jv rfl y5 rfl (by first | exact Nat.zero_add _ | rfl)) ?_
 refine aj 3 rfl rfl (by kernel_rfl) (by kernel_rfl) (by kernel_rfl) rfl hS (kA underlying436 (fun _ h => by cases h) rfl) ?_
 refine aj 4 rfl rfl (by kernel_rfl) (by kernel_rfl) (by kernel_rfl) rfl hS (ac rfl) ?_
 refine aj 5 rfl rfl (by kernel_rfl) (by kernel_rfl) (by kernel_rfl) rfl hS (al rfl mm rfl az rfl (by first | exact Nat.zero_add _ | rfl)) ?_
 refine aj 6 rfl rfl (by kernel_rfl) (by kernel_rfl) (by kernel_rfl) rfl hS (ao aQ rfl (aD (k := 0) rfl rfl)) ?_
 refine aj 7 rfl rfl (by kernel_rfl) (by kernel_rfl) (by kernel_rfl) rfl hS (al rfl mm rfl az rfl (by first | exact Nat.zero_add _ | rfl)) ?_
 refine aj 8 rfl rfl (by kernel_rfl) (by kernel_rfl) (by kernel_rfl) rfl hS (ao aQ rfl (aD (k := 0) rfl rfl)) ?_
 refine aj 9 rfl rfl (by kernel_rfl) (by kernel_rfl) (by kernel_rfl) rfl hS (bY yx yy (aH az (aH az (aH az bX))) (bq rfl az rfl rfl (Nat.le_of_ble_eq_true rfl) SetL.eq (bq rfl az rfl rfl (Nat.le_of_ble_eq_true rfl) SetL.eq (bq rfl az rfl rfl (Nat.le_of_ble_eq_true rfl) SetL.eq bW)))) ?_
 refine aj 10 rfl rfl (by kernel_rfl) (by kernel_rfl) (by kernel_rfl) rfl hS (kA yx (fun _ h => by cases h) rfl) ?_
 refine bA 11 (by kernel_rfl) rfl rfl (bn call176 rfl (Ek vb)) rfl ?_; clear hS
 rintro _ _ ⟨rfl, a3, c3, rfl⟩
 refine ⟨(aK aJ), fun hS => ?_⟩
 refine bL (by kernel_rfl) ?_; clear hS
 refine au (.inr rfl) .nil ?_
 exact ⟨_, ⟨rfl, a3, c3, rfl⟩, inferInstance⟩
 intro c2
 exact absurd c2 (by decide)
 intro g2_3
 exact absurd rfl g2_3
theorem Em (vb : Nat) : aC Tryz.prog W0 57 [pV vb, .int .i64 4] (pt vb iu :: R)
    (fun v B => v = .int .i64 0 ∧ ∃ a c, B = pt vb (fW true 1 1 (.slice a 1 c)) :: R) := by
 rw [Eb]
 refine aG func57 ntmps57 rfl rfl ?_
 refine ae (ah (aa rfl (ai rfl) (ag (ab (ae (ae (ah (aa rfl (ac rfl) (aa rfl (ac rfl) (am rfl (bn call135 rfl (Ed vb false 0 0 du)) ?_))))))))))
 rintro _ B_ ⟨rfl, hB_⟩
 obtain rfl := hB_.symm
 refine aa rfl (ai rfl) (ag (ab (ae (ah (aa rfl (ac rfl) (aa rfl (bI rfl rfl) (ag (ab ?_))))))))
 refine aw rfl ?_ ?_
 intro c2
 exact absurd rfl c2
 intro c2
 refine aB (ab (ae (ae (ah (aa rfl (ac rfl) (aa rfl (ac rfl) (aa rfl (aF rfl) ?_)))))))
 refine aa rfl (al rfl jv rfl pQ rfl (by first | exact Nat.zero_add _ | rfl)) ?_
 refine aa rfl (dO tB nX rfl rfl (i := 4) rfl (by decide) (by first | exact Nat.zero_add _ | rfl)) ?_
 refine aa rfl (al rfl mm rfl cB rfl (by first | exact Nat.zero_add _ | rfl)) ?_
 refine aa rfl (ao fM rfl (aA rfl)) ?_
 refine aa rfl (bM rfl) (ag (ab ?_))
 refine aw rfl ?_ ?_
 intro c4
 refine ae (ah (aa rfl (ac rfl) (aa rfl (aF rfl) ?_)))
 refine aa rfl (al rfl jv rfl az rfl (by first | exact Nat.zero_add _ | rfl)) ?_
 refine aa rfl (ao aQ rfl (aA rfl)) ?_
 refine aa rfl (bF rfl rfl (by decide : IntKind.wrap .i64 (0 + 1) = 1)) ?_
 refine aa rfl (aF rfl) ?_
 refine aa rfl (al rfl jv rfl az rfl (by first | exact Nat.zero_add _ | rfl)) ?_
 refine bD (cm az rfl rfl rfl (Nat.le_of_ble_eq_true rfl) SetL.eq) ?_
 rintro _ _ rfl
 refine ag (ab (ae ?_))
 refine cA [(vb, 33, [.int .i64 1])] 18 cz rfl (cW (jL (b := vb) (off := 33) rfl) aJ) (fun hS => ?_)
 refine aj 0 rfl rfl (by kernel_rfl) (by kernel_rfl) (by kernel_rfl) rfl hS (ac rfl) ?_
 refine aj 1 rfl rfl (by kernel_rfl) (by kernel_rfl) (by kernel_rfl) rfl hS (ac rfl) ?_
 refine aj 2 rfl rfl (by kernel_rfl) (by kernel_rfl) (by kernel_rfl) rfl hS (ac rfl) ?_
 refine aj 3 rfl rfl (by kernel_rfl) (by kernel_rfl) (by kernel_rfl) rfl hS (ac rfl) ?_
 refine aj 4 rfl rfl (by kernel_rfl) (by kernel_rfl) (by kernel_rfl) rfl hS (ac rfl) ?_
 refine aj 5 rfl rfl (by kernel_rfl) (by kernel_rfl) (by kernel_rfl) rfl hS (aF rfl) ?_
 refine aj 6 rfl rfl (by kernel_rfl) (by kernel_rfl) (by kernel_rfl) rfl hS (al rfl jv rfl az rfl (by first | exact Nat.zero_add _ | rfl)) ?_
 refine aj 7 rfl rfl (by kernel_rfl) (by kernel_rfl) (by kernel_rfl) rfl hS (ao aQ rfl (my (k := 0) rfl)) ?_
 refine aj 8 rfl rfl (by kernel_rfl) (by kernel_rfl) (by kernel_rfl) rfl hS (aF rfl) ?_
 refine aj 9 rfl rfl (by kernel_rfl) (by kernel_rfl) (by kernel_rfl) rfl hS (al rfl jv rfl pQ rfl (by first | exact Nat.zero_add _ | rfl)) ?_
 refine aj 10 rfl rfl (by kernel_rfl) (by kernel_rfl) (by kernel_rfl) rfl hS (dO tB nX rfl rfl (i := 4) rfl (by decide) (by first | exact Nat.zero_add _ | rfl)) ?_
 refine aj 11 rfl rfl (by kernel_rfl) (by kernel_rfl) (by kernel_rfl) rfl hS (al rfl mm rfl cB rfl (by first | exact Nat.zero_add _ | rfl)) ?_
 refine aj 13 rfl rfl (by kernel_rfl) (by kernel_rfl) (by kernel_rfl) rfl hS (aF rfl) ?_
 refine aj 14 rfl rfl (by kernel_rfl) (by kernel_rfl) (by kernel_rfl) rfl hS (al rfl jv rfl pQ rfl (by first | exact Nat.zero_add _ | rfl)) ?_
 refine bA 12 (by kernel_rfl) rfl rfl (cm cB rfl rfl rfl (Nat.le_of_ble_eq_true rfl) SetL.eq) rfl ?_; clear hS
 rintro _ _ rfl
 refine ⟨(cW (jL (b := vb) (off := 33) rfl) aJ), fun hS => ?_⟩
 refine aj 15 rfl rfl (by kernel_rfl) (by kernel_rfl) (by kernel_rfl) rfl hS (dO tB nX rfl rfl (i := 4) rfl (by decide) (by first | exact Nat.zero_add _ | rfl)) ?_
 refine aj 16 rfl rfl (by kernel_rfl) (by kernel_rfl) (by kernel_rfl) rfl hS (al rfl mm rfl az rfl (by first | exact Nat.zero_add _ | rfl)) ?_
 refine bA 17 (by kernel_rfl) rfl rfl (cm az rfl rfl rfl (Nat.le_of_ble_eq_true rfl) SetL.eq) rfl ?_; clear hS
 rintro _ _ rfl
 refine ⟨(cW (jL (b := vb) (off := 33) rfl) aJ), fun hS => ?_⟩
 refine bL (by kernel_rfl) ?_; clear hS
 refine ab (ah (aa rfl (ac rfl) (aa rfl (ac rfl) (am rfl (bn call136 rfl (El vb)) ?_))))
 rintro _ _ ⟨rfl, a3, c3, rfl⟩
 refine ag (ab (ae (ah (aa rfl (ai rfl) (ag (ab (av (au (.inl rfl) (.cons (ak rfl) .nil) ?_))))))))
 exact ⟨_, ⟨rfl, a3, c3, rfl⟩, inferInstance⟩
 intro c4
 exact absurd c4 (by decide)
theorem sM {n f : Nat} (h : f < n) : dy n f = true := by simp only [dy, decide_eq_true_eq]; omega
theorem En {fr : List bZ} {f : Nat} (hF : dZ fr) (hf : f < fr.length) (off : Nat) (ho : off + 4 ≤ 64) : lH fr f off 4 = 0 := by
 rw [lH, if_pos (sM hf), lD, if_pos]
 rw [eg]
 have := (hF.get hf).1
 rw [show ((f : Int).toNat) = f by omega, this]
 omega
theorem Eo (h : Nat) : IntKind.wrap .u32 ((h : Int) + 1) = (((h + 1) % 4294967296 : Nat) : Int) := by rw [show (h : Int) + 1 = ((h + 1 : Nat) : Int) by omega]; exact A0 _
theorem xm (W0 : World) (R : List HP) (ps : Nat) (fr : List bZ) (f : Nat) (hF : dZ fr) (hf : f < fr.length) :
    aC Tryz.prog W0 314 [.pointer (some ⟨ps, 0, none⟩), .int .i64 f] (bG ps fr :: R) (fun v B => v = .tuple #[.int .u32 (jA fr f 0 4 : Nat), .int .i64 0] ∧ B = bG ps fr :: R) := by
 have h0 : lH fr f 0 4 = 0 := En hF hf 0 (by decide)
 refine aG func314 ntmps314 rfl rfl ?_
 refine ae (ah (aa rfl (ai rfl) (aa rfl (ai rfl) (ag (ab (ae (ah (aa rfl (ac rfl) (aa rfl (ac rfl) (am rfl (bn call317 rfl (zv W0 _ ps fr f 0 4 hF)) ?_))))))))))
 rintro _ B_ ⟨rfl, hB_⟩
 obtain rfl := hB_.symm
 rw [h0]
 refine aa rfl (aS rfl rfl) (aa rfl (aS rfl rfl) (aa rfl (ai rfl) (aa rfl (ai rfl) (ag (ab (av (au (.inl rfl) (.cons (ak rfl) (.cons (ak rfl) .nil)) ?_)))))))
 exact ⟨_, ⟨rfl, rfl⟩, inferInstance⟩
theorem Ep (i : Nat) : aC Tryz.prog W0 315 [wV i] R (fun v B => v = .int .i64 ((4 + 4 * (i % 8) : Nat) : Int) ∧ B = R) := by
 refine aG func315 ntmps315 rfl rfl ?_
 refine ae (ah (aa rfl (ai rfl) (ag (ab (ae (ah (aa rfl (ac rfl) ?_)))))))
 refine aa rfl (qj rfl rfl (by decide) (by rw [show (8 : Int) = ((8 : Nat) : Int) from rfl, Int.tmod_eq_emod_of_nonneg (by omega), ← Int.natCast_emod] : Int.tmod (i : Int) 8 = ((i % 8 : Nat) : Int))) ?_
 refine aa rfl (gC gW eb rfl (aZ (by omega))) ?_
 refine aa rfl (il rfl rfl (aZ (by omega))) ?_
 refine aa rfl (bF rfl rfl (by rw [aZ (by omega)]; omega : IntKind.wrap .i64 (4 + 4 * ((i % 8 : Nat) : Int)) = ((4 + 4 * (i % 8) : Nat) : Int))) ?_
 refine aa rfl (ai rfl) (ag (ab (av (au (.inl rfl) (.cons (ak rfl) .nil) ?_))))
 exact ⟨_, ⟨rfl, rfl⟩, inferInstance⟩
theorem xn {W0 : World} {R : List HP} {ps : Nat} {fr : List bZ} {f off x : Nat} (hF : dZ fr) (hf : f < fr.length) (ho : off + 4 ≤ 64) (hx : x < 4294967296) :
    aC Tryz.prog W0 29 ([.pointer (some ⟨ps, 0, none⟩)] ++ [.int .i64 f, .int .i64 off, .int .i64 4, wV x] ++ []) (bG ps fr :: R)
      (fun v B => v = .int .i64 0 ∧ B = bG ps (f0 fr f off 4 x) :: R) := by
 have h1 : g7 fr f off 4 = true := by
  simp only [g7, Bool.and_eq_true]
  exact ⟨sM hf, by rw [eg]; omega⟩
 have := uA W0 R ps fr f off 4 x hx hF
 rw [h1] at this
 exact this
theorem Er (W0 : World) (R : List HP) (ps : Nat) (fr : List bZ) (f w : Nat) (hF : dZ fr) (hf : f < fr.length) (hw : w < 4294967296) :
    aC Tryz.prog W0 221 [.pointer (some ⟨ps, 0, none⟩), .int .i64 f, wV w] (bG ps fr :: R) (fun v B => v = .int .i64 0 ∧ ∃ fr', B = bG ps fr' :: R) := by
 refine aG func221 ntmps221 rfl rfl ?_
 refine ae (ah (aa rfl (ai rfl) (ag (ab (ae (ah (aa rfl (ac rfl) (aa rfl (ac rfl) (am rfl (bn call314 rfl (xm W0 _ ps fr f hF hf)) ?_)))))))))
 rintro _ B_ ⟨rfl, hB_⟩
 obtain rfl := hB_.symm
 refine aa rfl (ac rfl) (aa rfl (aS rfl rfl) (aa rfl (aS rfl rfl) (aa rfl (ai rfl) (aa rfl (ai rfl) (ag (ab (ae (ae (ah (aa rfl (ac rfl) (aa rfl (bI rfl rfl) (ag (ab ?_)))))))))))))
 refine aw rfl ?_ ?_
 intro c2
 exact absurd rfl c2
 intro c2
 refine aB (ab (ae (ah (aa rfl (ac rfl) (aa rfl (ip rfl rfl) ?_)))))
 refine aa rfl (ai rfl) (ag (ab (ae (ae (ah (aa rfl (ac rfl) (aa rfl (ac rfl) (aa rfl (ac rfl) (am rfl (aU call315 rfl (Ep _)) ?_)))))))))
 rintro _ B_ ⟨rfl, hB_⟩
 obtain rfl := hB_.symm
 refine aa rfl (ac rfl) ?_
 refine am rfl (mF (us := [.pointer (some ⟨ps, 0, none⟩)]) (cs := []) rfl xU rfl (xn hF hf (by omega) hw)) ?_
 rintro _ B_ ⟨rfl, hB_⟩
 obtain rfl := hB_.symm
 refine aa rfl (ai rfl) (ag (ab (ae (ah (aa rfl (ac rfl) (aa rfl (bI rfl rfl) (ag (ab ?_))))))))
 refine aw rfl ?_ ?_
 intro c6
 exact absurd rfl c6
 intro c6
 refine aB (ab (ae (ah (aa rfl (ac rfl) (aa rfl (ac rfl) (aa rfl (ac rfl) (aa rfl (bF rfl rfl (Eo _)) ?_)))))))
 refine am rfl (mF (us := [.pointer (some ⟨ps, 0, none⟩)]) (cs := []) rfl xU rfl (xn (off := 0) (uy hF) (by rw [uz]; exact hf) (by decide) (Nat.mod_lt _ (by decide)))) ?_
 rintro _ B_ ⟨rfl, hB_⟩
 obtain rfl := hB_.symm
 refine aa rfl (ai rfl) (ag (ab (av (au (.inl rfl) (.cons (ak rfl) .nil) ?_))))
 refine ⟨_, ⟨rfl, f0 (f0 fr f ((4 + 4 * (jA fr f 0 4 % 8) : Nat) : Int) 4 w) f ((0 : Nat) : Int) 4 ((jA fr f 0 4 + 1) % 4294967296), rfl⟩, inferInstance⟩
theorem Es {n f : Nat} (hf : f < n) : jA (List.replicate n bE) f 0 4 = 0 := by
 rw [jA, if_pos (sM (by simpa using hf))]
 have : (List.replicate n bE).getD ((f : Int).toNat) [] = bE := by simp [List.getD, hf]
 rw [this]; decide
theorem sN (W0 : World) (R : List HP) (ps n f : Nat) (hf : f < n) :
    aC Tryz.prog W0 222 [.pointer (some ⟨ps, 0, none⟩), .int .i64 f, wV 0] (bG ps (List.replicate n bE) :: R)
      (fun v B => v = .tuple #[.agg #[wV 0, wV 0, wV 0, .bool false], .int .i64 0] ∧ B = bG ps (List.replicate n bE) :: R) := by
 have h0 := Es hf
 refine aG func222 ntmps222 rfl rfl ?_
 refine ae (ah (am rfl (cM pY) ?_))
 rintro _ _ ⟨b1, rfl, rfl⟩
 refine aa rfl (ai rfl) (ag (ab (ae (ah (aa rfl (ac rfl) (aa rfl (ac rfl) ?_))))))
 refine am rfl (bn call314 rfl (xm W0 _ ps (List.replicate n bE) f (dZ.new n) (by simpa using hf))) ?_
 rintro _ B_ ⟨rfl, hB_⟩
 obtain rfl := hB_.symm
 rw [h0]
 refine aa rfl (ac rfl) (aa rfl (aS rfl rfl) (aa rfl (aS rfl rfl) (aa rfl (ai rfl) (aa rfl (ai rfl) (ag (ab (ae (aW (ae (ah (aa rfl (ac rfl) (aa rfl (bI rfl rfl) (aa rfl (ai rfl) (ag (ab ?_)))))))))))))))
 refine aw rfl ?_ ?_
 intro c2
 exact absurd rfl c2
 intro c2
 refine ae (ah (aa rfl (ac rfl) (aa rfl (ac rfl) (aa rfl (cu rfl rfl) (aa rfl (ai rfl) (ag (ab ?_)))))))
 refine aw rfl ?_ ?_
 intro c4
 refine ae (ah (aa rfl (ac rfl) (aa rfl (bY tC pY (aH cQ (aH cQ (aH cQ (aH cB bX)))) (bq rfl cQ rfl rfl (Nat.le_of_ble_eq_true rfl) SetL.eq bW)) ?_)))
 refine bD (cD pZ rfl rfl rfl rfl rfl) ?_
 rintro _ _ rfl
 refine aa rfl (ai rfl) (ag (ab (av (bj (aE (au (.inl rfl) (.cons (fG isAgg396 pZ rfl rfl) (.cons (ak rfl) .nil)) ?_))))))
 exact ⟨_, ⟨rfl, rfl⟩, inferInstance⟩
 intro c4
 exact absurd rfl c4
theorem kY {gbs : List Nat} {sp : List Value} {i g : Nat} (h : gbs[i]? = some g) : (gbs.map pV ++ sp)[i * 1]? = some (pV g) := by
 obtain ⟨hi, hg⟩ := List.getElem?_eq_some_iff.1 h
 rw [Nat.mul_one, List.getElem?_append_left (by rw [List.length_map]; exact hi)]
 simp [hi, hg]
section
variable {rb vb pv tr : Nat} {cs : List Value}
theorem Et (W0 : World) (R : List HP) (hb : Nat) (cf : Cfg) (ps pb db qb gb : Nat) (a : Option Addr) (cap : Nat) (gbs : List Nat) (i g : Nat) (hg : gbs[i]? = some g) (hi4 : gbs.length ≤ 4) (rl : List Nat) (pc : Nat) (es : List Evt)
    (h : GC rb vb pv tr cs) (hl : rl.length = 16) (hn : es.length < 4096) (hp : pc < 1000) (hw : rl.getD 1 0 = 0) :
    aC Tryz.prog W0 14 [pV hb, .slice a gbs.length cap, .int .i64 i] (pt hb (ax (fc cf ps pb db qb gb) 68) :: osl 50 1 (.slice a gbs.length cap) (gbs.map pV) :: pt g (bT cs) :: pt rb (bS rl pc) :: cq tr es :: R)
      (fun v B => v = .tuple #[.int .i64 0, .int .i64 0] ∧ B = pt hb (ax (fc cf ps pb db qb gb) 68) :: osl 50 1 (.slice a gbs.length cap) (gbs.map pV) :: pt g (bT cs) :: pt rb (bS (dp rl 0 i) (pc + 4)) :: cq tr (es ++ [⟨2, 0, 0, 0, pc, dp rl 0 i⟩]) :: R) := by
 have hi := (List.getElem?_eq_some_iff.1 hg).1
 refine aG func14 ntmps14 rfl rfl ?_
 refine ae (ah (aa rfl (ai rfl) (aa rfl (ai rfl) (ag (ab (ae (ae ?_)))))))
 refine ed (r := osl 50 1) (b := .slice a gbs.length cap) (gN (fun h1 h2 => by have := congrArg List.length h2; rw [List.length_map, List.length_nil] at this; omega) fun lg nn c2 sp h1 h2 h3 h4 h5 => ?_)
 cases h1
 refine ah (aa rfl (ac rfl) (am rfl (bn pU rfl (nx hb cf ps pb db qb gb)) ?_))
 rintro _ B_ ⟨rfl, hB_⟩
 obtain rfl := hB_.symm
 refine aa rfl (ac rfl) ?_
 refine bC rfl rfl rfl ?_ ?_
 intro g1_3
 exact absurd g1_3 (by decide)
 intro g1_3
 refine aa rfl (ac rfl) (ar rfl rfl (aa rfl (b0 rfl rfl) (aa rfl (aM rfl rfl) (aa rfl (ac rfl) ?_))))
 refine bC rfl rfl rfl ?_ ?_
 intro g1_7
 omega
 intro g1_7
 refine aa rfl (ac rfl) (ar rfl rfl (aa rfl (ac rfl) (ar rfl rfl (aa rfl (bu fC rfl) (ar rfl rfl (aa rfl (cK rfl rfl) (aa rfl (aM rfl rfl) (aa rfl (ac rfl) ?_))))))))
 refine bC rfl rfl rfl ?_ ?_
 intro g1_13
 omega
 intro g1_13
 refine aa rfl (ac rfl) (ar rfl rfl (aa rfl (ac rfl) (ar rfl rfl ?_)))
 refine aa rfl (ce fC fD rfl rfl rfl hi (by first | exact Nat.zero_add _ | rfl)) ?_
 refine ar rfl rfl (aa rfl (ao gL rfl (aA (kY hg))) ?_)
 refine ar rfl rfl (aa rfl (dv tx rfl rfl) (aa rfl (aM rfl rfl) (ag (ab ?_))))
 refine aw rfl ?_ ?_
 intro c1
 cases c1
 intro c1
 refine aB (ab (ae (ah (aa rfl (ac rfl) (aa rfl (ac rfl) ?_)))))
 refine aa rfl (ce fC fD rfl rfl rfl hi (by first | exact Nat.zero_add _ | rfl)) ?_
 refine aa rfl (ao gL rfl (aA (kY hg))) ?_
 refine am rfl (eX call37 rfl (xj g rl pc h hl)) ?_
 rintro _ B_ ⟨rfl, hB_⟩
 obtain rfl := hB_.symm
 rw [hw]
 refine aa rfl (ac rfl) (aa rfl (aS rfl rfl) (aa rfl (aS rfl rfl) (am rfl (cM mj) ?_)))
 rintro _ _ ⟨b9, rfl, rfl⟩
 refine aa rfl (ai rfl) (bD (cD ec rfl rfl rfl rfl rfl) ?_)
 rintro _ _ rfl
 refine ag (ab (ae ?_))
 refine cA [(lg, 0, _), (b9, 0, _)] 13 cz rfl (aK (aK aJ)) (fun hS => ?_)
 refine aj 0 rfl rfl (by kernel_rfl) (by kernel_rfl) (by kernel_rfl) rfl hS (ac rfl) ?_
 refine aj 1 rfl rfl (by kernel_rfl) (by kernel_rfl) (by kernel_rfl) rfl hS (ac rfl) ?_
 refine aj 2 rfl rfl (by kernel_rfl) (by kernel_rfl) (by kernel_rfl) rfl hS (ce fC fD rfl rfl rfl hi (by first | exact Nat.zero_add _ | rfl)) ?_
 refine aj 3 rfl rfl (by kernel_rfl) (by kernel_rfl) (by kernel_rfl) rfl hS (ao gL rfl (aD (k := 0) rfl (kY hg))) ?_
 refine aj 4 rfl rfl (by kernel_rfl) (by kernel_rfl) (by kernel_rfl) rfl hS (ac rfl) ?_
 refine aj 5 rfl rfl (by kernel_rfl) (by kernel_rfl) (by kernel_rfl) rfl hS (ac rfl) ?_
 refine aj 6 rfl rfl (by kernel_rfl) (by kernel_rfl) (by kernel_rfl) rfl hS (cV ks ec rfl (dm (k := 1) rfl) rfl) ?_
 refine aj 7 rfl rfl (by kernel_rfl) (by kernel_rfl) (by kernel_rfl) rfl hS (bY eK Fs (aH fD (aH az (aH cQ (aH ec (aH az bX))))) (bq rfl fD rfl rfl (Nat.le_of_ble_eq_true rfl) SetL.eq (bq rfl az rfl rfl (Nat.le_of_ble_eq_true rfl) SetL.eq (bq rfl cQ rfl rfl (Nat.le_of_ble_eq_true rfl) SetL.eq (im rfl ec rfl rfl (Nat.le_of_ble_eq_true rfl) SetRL.eq bW))))) ?_
 refine aj 8 rfl rfl (by kernel_rfl) (by kernel_rfl) (by kernel_rfl) rfl hS (ac rfl) ?_
 refine aj 9 rfl rfl (by kernel_rfl) (by kernel_rfl) (by kernel_rfl) rfl hS (ac rfl) ?_
 refine aj 10 rfl rfl (by kernel_rfl) (by kernel_rfl) (by kernel_rfl) rfl hS (bY dE Ft (aH eu (aH jw (aH nY bX))) (im rfl eu rfl rfl (Nat.le_of_ble_eq_true rfl) SetRL.eq (bq rfl jw rfl rfl (Nat.le_of_ble_eq_true rfl) SetL.eq (bq rfl nY rfl rfl (Nat.le_of_ble_eq_true rfl) SetL.eq bW)))) ?_
 refine bA 11 (by kernel_rfl) rfl rfl (bJ rfl) rfl ?_; clear hS
 rintro _ _ ⟨cb, rfl, rfl⟩
 refine ⟨(aK (aK aJ)), fun hS => ?_⟩
 refine aj 12 rfl rfl (by kernel_rfl) (by kernel_rfl) (by kernel_rfl) rfl hS (ai rfl) ?_
 refine bL (by kernel_rfl) ?_; clear hS
 refine ab (ae (iJ (b := cb) (o' := ax (jp g i 0 [wV (rl.getD 2 0), wV (rl.getD 3 0), wV (rl.getD 4 0), wV (rl.getD 5 0)] hb (.slice (some ⟨lg, 0, none⟩) gbs.length cap)) 118) rfl ?_))
 refine ah (aa rfl (ac rfl) (am rfl (bn call38 rfl (E7 cb g i hb _ _ _ _ _)) ?_))
 rintro _ B_ ⟨rfl, hB_⟩
 obtain rfl := hB_.symm
 refine aa rfl (ai rfl) (ag (ab (ae (ah (aa rfl (ac rfl) ?_)))))
 refine am rfl (mF (us := [pV cb]) (cs := []) rfl call230 rfl (E8 cb g i hb _ _ _ _ _ (by omega))) ?_
 rintro _ B_ ⟨rfl, hB_⟩
 obtain rfl := hB_.symm
 refine aa rfl (ac rfl) (aa rfl (aS rfl rfl) (aa rfl (aS rfl rfl) (aa rfl (ai rfl) (aa rfl (ai rfl) (ag (ab (ae (ae (ah (aa rfl (ac rfl) (aa rfl (bI rfl rfl) (aa rfl (ac rfl) ?_))))))))))))
 refine cJ rfl rfl rfl ?_ ?_
 intro g7_3
 exact absurd g7_3 (by decide)
 intro g7_3
 refine ap rfl rfl rfl rfl (aa rfl (aM rfl rfl) (ag (ab (eY rfl (aB (ab (ae (ah (aa rfl (ac rfl) (aa rfl (aF rfl) ?_))))))))))
 refine aa rfl (al rfl dE rfl eu rfl (by first | exact Nat.zero_add _ | rfl)) ?_
 refine aa rfl (al rfl eK rfl fD rfl (by first | exact Nat.zero_add _ | rfl)) ?_
 refine aa rfl (ao gL rfl (aA rfl)) ?_
 refine aa rfl (ac rfl) (aa rfl (ac rfl) ?_)
 refine am rfl (kx call39 rfl (xh g rl pc es 0 i h hl hn (by decide) hp)) ?_
 rintro _ B_ ⟨rfl, hB_⟩
 obtain rfl := hB_.symm
 rw [hw]
 refine ag (ab (ae (ah (aa rfl (ac rfl) ?_))))
 refine am rfl (bn call40 rfl (xk cb g i hb 0 _ _ _ _ _ (by decide) (by decide))) ?_
 rintro _ B_ ⟨rfl, hB_⟩
 obtain rfl := hB_.symm
 refine ag (ab (ae ?_))
 refine cA [(cb, 0, _)] 8 cz rfl (aK aJ) (fun hS => ?_)
 refine aj 0 rfl rfl (by kernel_rfl) (by kernel_rfl) (by kernel_rfl) rfl hS (ac rfl) ?_
 refine aj 1 rfl rfl (by kernel_rfl) (by kernel_rfl) (by kernel_rfl) rfl hS (ac rfl) ?_
 refine aj 2 rfl rfl (by kernel_rfl) (by kernel_rfl) (by kernel_rfl) rfl hS (aF rfl) ?_
 refine aj 3 rfl rfl (by kernel_rfl) (by kernel_rfl) (by kernel_rfl) rfl hS (al rfl dE rfl eu rfl (by first | exact Nat.zero_add _ | rfl)) ?_
 refine aj 4 rfl rfl (by kernel_rfl) (by kernel_rfl) (by kernel_rfl) rfl hS (al rfl eK rfl az rfl (by first | exact Nat.zero_add _ | rfl)) ?_
 refine aj 5 rfl rfl (by kernel_rfl) (by kernel_rfl) (by kernel_rfl) rfl hS (ao aQ rfl (aD (k := 0) rfl rfl)) ?_
 refine aj 6 rfl rfl (by kernel_rfl) (by kernel_rfl) (by kernel_rfl) rfl hS (ai rfl) ?_
 refine aj 7 rfl rfl (by kernel_rfl) (by kernel_rfl) (by kernel_rfl) rfl hS (ai rfl) ?_
 refine bL (by kernel_rfl) ?_; clear hS
 refine ab (av (au (.inl rfl) (.cons (ak rfl) (.cons (ak rfl) .nil)) ?_))
 refine ⟨_, ⟨rfl, rfl⟩, ?_⟩
 have e := fa (E := 50) (sz := 1) (g := lg) (n := gbs.length) (cap := cap) (xs := gbs.map pV) (sp := sp) (A := pt lg (ax (gbs.map pV ++ sp) 50) :: pt g (bT cs) :: pt rb (bS (dp rl 0 i) (pc + 4)) :: cq tr (es ++ [⟨2, 0, 0, 0, pc, dp rl 0 i⟩]) :: R) (B := pt g (bT cs) :: pt rb (bS (dp rl 0 i) (pc + 4)) :: cq tr (es ++ [⟨2, 0, 0, 0, pc, dp rl 0 i⟩]) :: R) h2 h3 (by rw [List.length_map]; omega) h5
 exact (inferInstance : Ent _ (pt hb (ax (fc cf ps pb db qb gb) 68) :: pt lg (ax (gbs.map pV ++ sp) 50) :: pt g (bT cs) :: pt rb (bS (dp rl 0 i) (pc + 4)) :: cq tr (es ++ [⟨2, 0, 0, 0, pc, dp rl 0 i⟩]) :: R)).trans (Ent.cons e)
def dT (rl : List Nat) (n : Nat) (x : List Nat) : Nat → List Nat
 | 0 => rl.set 1 n
 | k + 1 => (dT rl n x k).set (k + 2) (x.getD k 0)
theorem m6 {rl : List Nat} {n : Nat} {x : List Nat} (h : rl.length = 16) : ∀ k, (dT rl n x k).length = 16
 | 0 => by rw [dT, List.length_set]; exact h
 | k + 1 => by rw [dT, List.length_set]; exact m6 h k
theorem pD (W0 : World) (R : List HP) (g : Nat) (rl : List Nat) (pc n : Nat) (x : List Nat) (hx : x.length = 4) (h : GC rb vb pv tr cs) (hl : rl.length = 16) :
    aC Tryz.prog W0 13 [pV g, wV n, .agg (x.map wV).toArray] (pt g (bT cs) :: pt rb (bS rl pc) :: R) (fun v B => v = .tuple #[] ∧ B = pt g (bT cs) :: pt rb (bS (dT rl n x 4) pc) :: R) := by
 refine aG func13 ntmps13 rfl rfl ?_
 refine ae (ah (am rfl (bJ rfl) ?_))
 rintro _ _ ⟨b5, rfl, rfl⟩
 refine ag (ab (ae (ah (aa rfl (ac rfl) (aa rfl (ac rfl) ?_)))))
 refine am rfl (eX call35 rfl (xg g rl pc 1 n h hl (by decide) (by decide))) ?_
 rintro _ B_ ⟨rfl, hB_⟩
 obtain rfl := hB_.symm
 refine ag (ab (ae (ah (aa rfl (ai rfl) (ag (ab (aW ?_)))))))
 refine cT (fun k : Nat => k ≤ 4) (fun k => [(0, pV g), (5, pV b5), (6, .int .i64 k)]) (fun k => pt b5 (ax (x.map wV) 43) :: pt g (bT cs) :: pt rb (bS (dT rl n x k) pc) :: R) (fun k => 4 - k) 0 ?_ ?_ ?_ ?_
 exact Nat.zero_le _
 · repeat (first | exact aX | refine aV rfl ?_)
 rw [show dT rl n x 0 = rl.set 1 n from rfl]
 exact inferInstance
 intro k hk
 refine ae (ae (ah (aa rfl (ac rfl) (aa rfl (b0 rfl rfl) (ag (ab ?_))))))
 refine aw rfl ?_ ?_
 intro c3
 refine aB (ab (ae (aW ?_)))
 have hk1 : k < 4 := by omega
 have hg : (x.map wV)[k * 1]? = some (wV (x.getD k 0)) := by
  rw [Nat.mul_one]; simp [List.getD, show k < x.length by omega]
 refine ah (aa rfl (ac rfl) (aa rfl (ac rfl) ?_))
 refine aa rfl (bF rfl rfl (by rw [aZ (by omega)]; omega : IntKind.wrap .i64 ((k : Int) + 2) = ((k + 2 : Nat) : Int))) ?_
 refine aa rfl (ac rfl) ?_
 refine aa rfl (dO ij cQ rfl rfl rfl hk1 (by first | exact Nat.zero_add _ | rfl)) ?_
 refine aa rfl (ao fm rfl (aA hg)) ?_
 refine am rfl (eX call35 rfl (xg g (dT rl n x k) pc (k + 2) (x.getD k 0) h (m6 hl k) (by omega) (by omega))) ?_
 rintro _ B_ ⟨rfl, hB_⟩
 obtain rfl := hB_.symm
 refine ag (bH (ab (ah (aa rfl (ac rfl) ?_))))
 refine aa rfl (bF rfl rfl (by first | exact aZ (by omega) | rfl)) ?_
 refine aa rfl (ai rfl) (ag (ab ?_))
 refine cG (k + 1) ?_ ?_ ?_ ?_
 omega
 omega
 · repeat (first | exact aX | refine aV rfl ?_)
 rw [show dT rl n x (k + 1) = (dT rl n x k).set (k + 2) (x.getD k 0) from rfl]
 exact inferInstance
 intro c3
 refine cj (bi (bi (co (au (.inr rfl) .nil ?_))))
 obtain rfl : k = 4 := by omega
 exact ⟨_, ⟨rfl, rfl⟩, inferInstance⟩
end
@[reducible] def ix (b1 b2 b3 b4 b5 : Nat) : Cfg := ⟨1, some ⟨b1, 0, none⟩, 2, [(1, 4, 2), (0, 4, 0)], some ⟨b2, 0, none⟩, 1, [(0, 0, 4)], some ⟨b3, 0, none⟩, 2, [(1, 0), (0, 1)], some ⟨b4, 0, none⟩, 1, [(1, 0)], some ⟨b5, 0, none⟩, 1, [(0, 1)], 0, 8⟩
@[reducible] def sP (b1 b2 b3 b4 b5 : Nat) (R : List HP) : List HP := pt b1 (ax ([(1, 4, 2), (0, 4, 0)].flatMap dS) 85) :: pt b2 (ax ([(0, 0, 4)].flatMap dS) 144) :: pt b3 (ax ([(1, 0), (0, 1)].flatMap dj) 146) :: pt b4 (ax ([(1, 0)].flatMap dj) 61) :: pt b5 (ax ([(0, 1)].flatMap dj) 87) :: R
theorem Eu (b1 b2 b3 b4 b5 : Nat) : rt (ix b1 b2 b3 b4 b5) = true := by kernel_rfl
theorem Ev : aC Tryz.prog W0 18 [] R (fun v B => ∃ b1 b2 b3 b4 b5, v = .agg (bU (ix b1 b2 b3 b4 b5)).toArray ∧ B = sP b1 b2 b3 b4 b5 R) := by
 refine aG func18 ntmps18 rfl rfl ?_
 refine ae (ah (am rfl (cM Fu) ?_))
 rintro _ _ ⟨b1, rfl, rfl⟩
 refine ag (ab (ae (ah (aa rfl (bY dV mc (aH az (aH az (aH az bX))) (bq rfl az rfl rfl (Nat.le_of_ble_eq_true rfl) SetL.eq (bq rfl az rfl rfl (Nat.le_of_ble_eq_true rfl) SetL.eq (bq rfl az rfl rfl (Nat.le_of_ble_eq_true rfl) SetL.eq bW)))) ?_))))
 refine aa rfl (bY dV mc (aH az (aH az (aH az bX))) (bq rfl az rfl rfl (Nat.le_of_ble_eq_true rfl) SetL.eq bW)) ?_
 refine am rfl (g5 dq eH mc rfl (eN rfl rfl (eN rfl rfl fZ)) rfl (by decide) (by decide) (by decide)) ?_
 rintro _ _ ⟨b1, rfl, rfl⟩
 refine aa rfl (bY ie pL (aH az (aH az (aH az bX))) (bq rfl az rfl rfl (Nat.le_of_ble_eq_true rfl) SetL.eq (bq rfl az rfl rfl (Nat.le_of_ble_eq_true rfl) SetL.eq bW))) ?_
 refine am rfl (g5 gi iB pL rfl (eN rfl rfl fZ) rfl (by decide) (by decide) (by decide)) ?_
 rintro _ _ ⟨b2, rfl, rfl⟩
 refine aa rfl (bY eG ke (aH az (aH az bX)) (bq rfl az rfl rfl (Nat.le_of_ble_eq_true rfl) SetL.eq bW)) ?_
 refine aa rfl (bY eG ke (aH az (aH az bX)) (bq rfl az rfl rfl (Nat.le_of_ble_eq_true rfl) SetL.eq bW)) ?_
 refine am rfl (g5 f8 fe ke rfl (eN rfl rfl (eN rfl rfl fZ)) rfl (by decide) (by decide) (by decide)) ?_
 rintro _ _ ⟨b3, rfl, rfl⟩
 refine aa rfl (bY et ic (aH az (aH az bX)) (bq rfl az rfl rfl (Nat.le_of_ble_eq_true rfl) SetL.eq (bq rfl az rfl rfl (Nat.le_of_ble_eq_true rfl) SetL.eq bW))) ?_
 refine am rfl (g5 eI ei ic rfl (eN rfl rfl fZ) rfl (by decide) (by decide) (by decide)) ?_
 rintro _ _ ⟨b4, rfl, rfl⟩
 refine aa rfl (bY l6 t8 (aH az (aH az bX)) (bq rfl az rfl rfl (Nat.le_of_ble_eq_true rfl) SetL.eq bW)) ?_
 refine am rfl (g5 js md t8 rfl (eN rfl rfl fZ) rfl (by decide) (by decide) (by decide)) ?_
 rintro _ _ ⟨b5, rfl, rfl⟩
 refine aa rfl (bY bw Fu (aH az (aH dD (aH iU (aH fX (aH eV (aH jr (aH az (aH az bX)))))))) (bq rfl az rfl rfl (Nat.le_of_ble_eq_true rfl) SetL.eq (bq rfl dD rfl rfl (Nat.le_of_ble_eq_true rfl) SetL.eq (bq rfl iU rfl rfl (Nat.le_of_ble_eq_true rfl) SetL.eq (bq rfl fX rfl rfl (Nat.le_of_ble_eq_true rfl) SetL.eq (bq rfl eV rfl rfl (Nat.le_of_ble_eq_true rfl) SetL.eq (bq rfl jr rfl rfl (Nat.le_of_ble_eq_true rfl) SetL.eq (bq rfl az rfl rfl (Nat.le_of_ble_eq_true rfl) SetL.eq bW)))))))) ?_
 refine bD (cD bN rfl rfl rfl rfl rfl) ?_
 rintro _ _ rfl
 refine ag (ab (av (iJ (b := b1) (o' := ax ([(1, 4, 2), (0, 4, 0)].flatMap dS) 85) rfl ?_)))
 refine iJ (b := b2) (o' := ax ([(0, 0, 4)].flatMap dS) 144) rfl ?_
 refine iJ (b := b3) (o' := ax ([(1, 0), (0, 1)].flatMap dj) 146) rfl ?_
 refine iJ (b := b4) (o' := ax ([(1, 0)].flatMap dj) 61) rfl ?_
 refine iJ (b := b5) (o' := ax ([(0, 1)].flatMap dj) 87) rfl ?_
 refine au (.inl rfl) (.cons (fG cn bN rfl rfl) .nil) ?_
 exact ⟨_, ⟨b1, b2, b3, b4, b5, rfl, rfl⟩, inferInstance⟩
theorem Ew {W0 W : World} {b1 b2 b3 b4 b5 : Nat} {R : List HP} (hO : Own W0 W (sP b1 b2 b3 b4 b5 R)) : CfK W (ix b1 b2 b3 b4 b5) :=
  ⟨⟨nh hO (jQ (b := b1) (fun _ => rfl) rfl), nh hO (jQ (b := b2) (fun _ => rfl) rfl), nh hO (jQ (b := b3) (fun _ => rfl) rfl), nh hO (jQ (b := b4) (fun _ => rfl) rfl), nh hO (jQ (b := b5) (fun _ => rfl) rfl), Nat.le_refl _⟩, Nat.le_refl _⟩
abbrev dM (gb i n : Nat) (a b c d hb : Nat) (lv : Value) : Obj := ax (jp gb i n [wV a, wV b, wV c, wV d] hb lv) 118
abbrev cX (cf : Cfg) (ps pb db qb gb : Nat) : Obj := ax (fc cf ps pb db qb gb) 68
def gT (cf : Cfg) (a : Nat) : Value := if a < cf.nl.length then .tuple #[.agg (dj (dL cf a)).toArray, .int .i64 (fV cf a), .int .i64 0] else .tuple #[.agg #[.int .i64 0, .int .i64 0], .int .i64 0, .int .i64 3]
theorem m7 (W0 : World) (R : List HP) (cb gb i n a b c d hb : Nat) (lv : Value) (cf : Cfg) (ps pb db qb tb : Nat) (h : CfK W0 cf) (hn : cf.nl.length ≤ 4) (ha : a < 4294967296) :
    aC Tryz.prog W0 220 [pV cb] (pt cb (dM gb i n a b c d hb lv) :: pt hb (cX cf ps pb db qb tb) :: R)
      (fun v B => v = gT cf a ∧ B = pt cb (dM gb i n a b c d hb lv) :: pt hb (cX cf ps pb db qb tb) :: R) := by
 by_cases hl : a < cf.nl.length
 obtain ⟨g, o, hna, hc⟩ := (h.ok.n (pt cb (dM gb i n a b c d hb lv) :: pt hb (cX cf ps pb db qb tb) :: R)).at_ hl
 obtain ⟨x, hx⟩ : ∃ x, cf.nl[a] = x := ⟨_, rfl⟩
 rw [hx] at hc
 rw [gT, if_pos hl, show dL cf a = x by simp [dL, List.getD, hl, hx]]
 refine aG func220 ntmps220 rfl rfl ?_
 refine ae (ah (am rfl (cM ic) ?_))
 rintro _ _ ⟨b1, rfl, rfl⟩
 refine aa rfl (ai rfl) (aa rfl (ai rfl) (ag (ab (ae (ae ?_)))))
 refine cA [(cb, 0, _), (hb, 0, _)] 18 cz rfl (aK (aK aJ)) (fun hS => ?_)
 refine aj 0 rfl rfl (by kernel_rfl) (by kernel_rfl) (by kernel_rfl) rfl hS (ac rfl) ?_
 refine aj 1 rfl rfl (by kernel_rfl) (by kernel_rfl) (by kernel_rfl) rfl hS (aF rfl) ?_
 refine aj 2 rfl rfl (by kernel_rfl) (by kernel_rfl) (by kernel_rfl) rfl hS (al rfl dE rfl eu rfl (by first | exact Nat.zero_add _ | rfl)) ?_
 refine aj 3 rfl rfl (by kernel_rfl) (by kernel_rfl) (by kernel_rfl) rfl hS (al rfl eK rfl ec rfl (by first | exact Nat.zero_add _ | rfl)) ?_
 refine aj 4 rfl rfl (by kernel_rfl) (by kernel_rfl) (by kernel_rfl) rfl hS (dO ij cQ rfl rfl (i := 0) rfl (by decide) (by first | exact Nat.zero_add _ | rfl)) ?_
 refine aj 5 rfl rfl (by kernel_rfl) (by kernel_rfl) (by kernel_rfl) rfl hS (ao fm rfl (aD (k := 0) (j := 3) rfl rfl)) ?_
 refine aj 6 rfl rfl (by kernel_rfl) (by kernel_rfl) (by kernel_rfl) rfl hS (gC gW tD rfl (oj (by omega))) ?_
 refine aj 7 rfl rfl (by kernel_rfl) (by kernel_rfl) (by kernel_rfl) rfl hS (ac rfl) ?_
 refine aj 8 rfl rfl (by kernel_rfl) (by kernel_rfl) (by kernel_rfl) rfl hS (aF rfl) ?_
 refine aj 9 rfl rfl (by kernel_rfl) (by kernel_rfl) (by kernel_rfl) rfl hS (al rfl dE rfl jw rfl (by first | exact Nat.zero_add _ | rfl)) ?_
 refine aj 10 rfl rfl (by kernel_rfl) (by kernel_rfl) (by kernel_rfl) rfl hS (ao mn rfl (aD (k := 0) (j := 8) rfl rfl)) ?_
 refine aj 11 rfl rfl (by kernel_rfl) (by kernel_rfl) (by kernel_rfl) rfl hS (aF rfl) ?_
 refine aj 12 rfl rfl (by kernel_rfl) (by kernel_rfl) (by kernel_rfl) rfl hS (al rfl gA rfl bN rfl (by first | exact Nat.zero_add _ | rfl)) ?_
 refine aj 13 rfl rfl (by kernel_rfl) (by kernel_rfl) (by kernel_rfl) rfl hS (al rfl bw rfl eV rfl (by first | exact Nat.zero_add _ | rfl)) ?_
 refine aj 14 rfl rfl (by kernel_rfl) (by kernel_rfl) (by kernel_rfl) rfl hS (ao ff rfl (aD (k := 1) (j := 4) rfl rfl)) ?_
 refine aj 15 rfl rfl (by kernel_rfl) (by kernel_rfl) (by kernel_rfl) rfl hS (bu eI rfl) ?_
 refine aj 16 rfl rfl (by kernel_rfl) (by kernel_rfl) (by kernel_rfl) rfl hS (gC eb tD rfl (oj (by omega))) ?_
 refine aj 17 rfl rfl (by kernel_rfl) (by kernel_rfl) (by kernel_rfl) rfl hS (cK rfl rfl) ?_
 refine bL (by kernel_rfl) ?_; clear hS
 refine ab ?_
 refine aw rfl ?_ ?_
 intro c1
 omega
 intro c1
 refine aB (ab (ae (ah (aa rfl (ac rfl) (aa rfl (aF rfl) ?_)))))
 refine aa rfl (al rfl dE rfl eu rfl (by first | exact Nat.zero_add _ | rfl)) ?_
 refine aa rfl (al rfl eK rfl ec rfl (by first | exact Nat.zero_add _ | rfl)) ?_
 refine aa rfl (dO ij cQ rfl rfl (i := 0) rfl (by decide) (by first | exact Nat.zero_add _ | rfl)) ?_
 refine aa rfl (ao fm rfl (aA rfl)) ?_
 refine aa rfl (gC gW eb rfl (by first | exact aZ (by omega) | rfl)) ?_
 refine aa rfl (ai rfl) (ag (ab (ae ?_)))
 refine cA [(cb, 0, _), (hb, 0, _), (g, o + a * 2, dj x)] 23 cz rfl (aK (aK (cW hc.weak aJ))) (fun hS => ?_)
 refine aj 0 rfl rfl (by kernel_rfl) (by kernel_rfl) (by kernel_rfl) rfl hS (ac rfl) ?_
 refine aj 1 rfl rfl (by kernel_rfl) (by kernel_rfl) (by kernel_rfl) rfl hS (aF rfl) ?_
 refine aj 2 rfl rfl (by kernel_rfl) (by kernel_rfl) (by kernel_rfl) rfl hS (al rfl dE rfl jw rfl (by first | exact Nat.zero_add _ | rfl)) ?_
 refine aj 3 rfl rfl (by kernel_rfl) (by kernel_rfl) (by kernel_rfl) rfl hS (ao mn rfl (by first | exact aD (k := 0) rfl rfl | exact aD (k := 1) rfl rfl | exact aD (k := 2) rfl rfl)) ?_
 refine aj 4 rfl rfl (by kernel_rfl) (by kernel_rfl) (by kernel_rfl) rfl hS (aF rfl) ?_
 refine aj 5 rfl rfl (by kernel_rfl) (by kernel_rfl) (by kernel_rfl) rfl hS (al rfl gA rfl bN rfl (by first | exact Nat.zero_add _ | rfl)) ?_
 refine aj 6 rfl rfl (by kernel_rfl) (by kernel_rfl) (by kernel_rfl) rfl hS (al rfl bw rfl eV rfl (by first | exact Nat.zero_add _ | rfl)) ?_
 refine aj 7 rfl rfl (by kernel_rfl) (by kernel_rfl) (by kernel_rfl) rfl hS (ao ff rfl (by first | exact aD (k := 0) rfl rfl | exact aD (k := 1) rfl rfl | exact aD (k := 2) rfl rfl)) ?_
 refine aj 8 rfl rfl (by kernel_rfl) (by kernel_rfl) (by kernel_rfl) rfl hS (ac rfl) ?_
 refine aj 9 rfl rfl (by kernel_rfl) (by kernel_rfl) (by kernel_rfl) rfl hS (dH eI ei rfl hna rfl rfl hl (by first | exact Nat.zero_add _ | rfl)) ?_
 refine aj 10 rfl rfl (by kernel_rfl) (by kernel_rfl) (by kernel_rfl) rfl hS (cV l7 ei rfl (dm (k := 2) rfl) rfl) ?_
 refine aj 11 rfl rfl (by kernel_rfl) (by kernel_rfl) (by kernel_rfl) rfl hS (ac rfl) ?_
 refine aj 12 rfl rfl (by kernel_rfl) (by kernel_rfl) (by kernel_rfl) rfl hS (aF rfl) ?_
 refine aj 13 rfl rfl (by kernel_rfl) (by kernel_rfl) (by kernel_rfl) rfl hS (al rfl dE rfl jw rfl (by first | exact Nat.zero_add _ | rfl)) ?_
 refine aj 14 rfl rfl (by kernel_rfl) (by kernel_rfl) (by kernel_rfl) rfl hS (ao mn rfl (by first | exact aD (k := 0) rfl rfl | exact aD (k := 1) rfl rfl | exact aD (k := 2) rfl rfl)) ?_
 refine aj 15 rfl rfl (by kernel_rfl) (by kernel_rfl) (by kernel_rfl) rfl hS (aF rfl) ?_
 refine aj 16 rfl rfl (by kernel_rfl) (by kernel_rfl) (by kernel_rfl) rfl hS (al rfl gA rfl bN rfl (by first | exact Nat.zero_add _ | rfl)) ?_
 refine aj 17 rfl rfl (by kernel_rfl) (by kernel_rfl) (by kernel_rfl) rfl hS (cV cn bN rfl (rC (l1 := bU cf) (l2 := [pV ps, pV pb, pV db, pV qb, pV tb]) (dm (k := 1) rfl)) rfl) ?_
 refine aj 18 rfl rfl (by kernel_rfl) (by kernel_rfl) (by kernel_rfl) rfl hS (ac rfl) ?_
 refine bA 19 (by kernel_rfl) rfl rfl (aU call206 rfl (wu W0 _ cf h a)) rfl ?_; clear hS
 rintro _ B_ ⟨rfl, hB_⟩
 obtain rfl := hB_.symm
 refine ⟨(aK (aK (cW hc.weak aJ))), fun hS => ?_⟩
 refine bA 20 (by kernel_rfl) rfl rfl (cD ei rfl rfl rfl rfl rfl) rfl ?_; clear hS
 rintro _ _ rfl
 refine ⟨(aK (aK (cW hc.weak aJ))), fun hS => ?_⟩
 refine aj 21 rfl rfl (by kernel_rfl) (by kernel_rfl) (by kernel_rfl) rfl hS (ai rfl) ?_
 refine aj 22 rfl rfl (by kernel_rfl) (by kernel_rfl) (by kernel_rfl) rfl hS (ai rfl) ?_
 refine bL (by kernel_rfl) ?_; clear hS
 refine ab (av (au (.inl rfl) (.cons (fG l7 ei rfl rfl) (.cons (ak rfl) (.cons (ak rfl) .nil))) ?_))
 exact ⟨_, ⟨rfl, rfl⟩, inferInstance⟩
 rw [gT, if_neg hl]
 refine aG func220 ntmps220 rfl rfl ?_
 refine ae (ah (am rfl (cM ic) ?_))
 rintro _ _ ⟨b1, rfl, rfl⟩
 refine aa rfl (ai rfl) (aa rfl (ai rfl) (ag (ab (ae (ae ?_)))))
 refine cA [(cb, 0, _), (hb, 0, _)] 18 cz rfl (aK (aK aJ)) (fun hS => ?_)
 refine aj 0 rfl rfl (by kernel_rfl) (by kernel_rfl) (by kernel_rfl) rfl hS (ac rfl) ?_
 refine aj 1 rfl rfl (by kernel_rfl) (by kernel_rfl) (by kernel_rfl) rfl hS (aF rfl) ?_
 refine aj 2 rfl rfl (by kernel_rfl) (by kernel_rfl) (by kernel_rfl) rfl hS (al rfl dE rfl eu rfl (by first | exact Nat.zero_add _ | rfl)) ?_
 refine aj 3 rfl rfl (by kernel_rfl) (by kernel_rfl) (by kernel_rfl) rfl hS (al rfl eK rfl ec rfl (by first | exact Nat.zero_add _ | rfl)) ?_
 refine aj 4 rfl rfl (by kernel_rfl) (by kernel_rfl) (by kernel_rfl) rfl hS (dO ij cQ rfl rfl (i := 0) rfl (by decide) (by first | exact Nat.zero_add _ | rfl)) ?_
 refine aj 5 rfl rfl (by kernel_rfl) (by kernel_rfl) (by kernel_rfl) rfl hS (ao fm rfl (by first | exact aD (k := 0) rfl rfl | exact aD (k := 1) rfl rfl)) ?_
 refine aj 6 rfl rfl (by kernel_rfl) (by kernel_rfl) (by kernel_rfl) rfl hS (gC gW tD rfl (oj (by omega))) ?_
 refine aj 7 rfl rfl (by kernel_rfl) (by kernel_rfl) (by kernel_rfl) rfl hS (ac rfl) ?_
 refine aj 8 rfl rfl (by kernel_rfl) (by kernel_rfl) (by kernel_rfl) rfl hS (aF rfl) ?_
 refine aj 9 rfl rfl (by kernel_rfl) (by kernel_rfl) (by kernel_rfl) rfl hS (al rfl dE rfl jw rfl (by first | exact Nat.zero_add _ | rfl)) ?_
 refine aj 10 rfl rfl (by kernel_rfl) (by kernel_rfl) (by kernel_rfl) rfl hS (ao mn rfl (by first | exact aD (k := 0) rfl rfl | exact aD (k := 1) rfl rfl)) ?_
 refine aj 11 rfl rfl (by kernel_rfl) (by kernel_rfl) (by kernel_rfl) rfl hS (aF rfl) ?_
 refine aj 12 rfl rfl (by kernel_rfl) (by kernel_rfl) (by kernel_rfl) rfl hS (al rfl gA rfl bN rfl (by first | exact Nat.zero_add _ | rfl)) ?_
 refine aj 13 rfl rfl (by kernel_rfl) (by kernel_rfl) (by kernel_rfl) rfl hS (al rfl bw rfl eV rfl (by first | exact Nat.zero_add _ | rfl)) ?_
 refine aj 14 rfl rfl (by kernel_rfl) (by kernel_rfl) (by kernel_rfl) rfl hS (ao ff rfl (by first | exact aD (k := 0) rfl rfl | exact aD (k := 1) rfl rfl)) ?_
 refine aj 15 rfl rfl (by kernel_rfl) (by kernel_rfl) (by kernel_rfl) rfl hS (bu eI rfl) ?_
 refine aj 16 rfl rfl (by kernel_rfl) (by kernel_rfl) (by kernel_rfl) rfl hS (gC eb tD rfl (oj (by omega))) ?_
 refine aj 17 rfl rfl (by kernel_rfl) (by kernel_rfl) (by kernel_rfl) rfl hS (cK rfl rfl) ?_
 refine bL (by kernel_rfl) ?_; clear hS
 refine ab ?_
 refine aw rfl ?_ ?_
 intro c1
 refine ae (ah (aa rfl (bY et ic (aH az (aH az bX)) bW) ?_))
 refine bD (cD ei rfl rfl rfl rfl rfl) ?_
 rintro _ _ rfl
 refine aa rfl (ai rfl) (aa rfl (ai rfl) (ag (ab (av (aE (au (.inl rfl) (.cons (fG l7 ei rfl rfl) (.cons (ak rfl) (.cons (ak rfl) .nil))) ?_))))))
 exact ⟨_, ⟨rfl, rfl⟩, inferInstance⟩
 intro c1
 omega
theorem Ey (W0 : World) (R : List HP) (cb gb i n a b c d hb : Nat) (lv : Value) (cf : Cfg) (ps pb db qb tb : Nat) (hi : (i : Int) ≠ cf.gate) :
    aC Tryz.prog W0 102 ([pV cb] ++ [] ++ []) (pt cb (dM gb i n a b c d hb lv) :: pt hb (cX cf ps pb db qb tb) :: R)
      (fun v B => v = .tuple #[.int .i64 4, wV 0] ∧ B = pt cb (dM gb i n a b c d hb lv) :: pt hb (cX cf ps pb db qb tb) :: R) := by
 simp only [List.append_nil]
 refine aG func102 ntmps102 rfl rfl ?_
 refine ae (ah (aa rfl (ai rfl) (aa rfl (ai rfl) (ag (ab (ae ?_))))))
 refine cA [(cb, 0, _)] 21 cz rfl (aK aJ) (fun hS => ?_)
 refine aj 0 rfl rfl (by kernel_rfl) (by kernel_rfl) (by kernel_rfl) rfl hS (ac rfl) ?_
 refine aj 1 rfl rfl (by kernel_rfl) (by kernel_rfl) (by kernel_rfl) rfl hS (aF rfl) ?_
 refine aj 2 rfl rfl (by kernel_rfl) (by kernel_rfl) (by kernel_rfl) rfl hS (al rfl dE rfl eu rfl (by first | exact Nat.zero_add _ | rfl)) ?_
 refine aj 3 rfl rfl (by kernel_rfl) (by kernel_rfl) (by kernel_rfl) rfl hS (al rfl eK rfl ec rfl (by first | exact Nat.zero_add _ | rfl)) ?_
 refine aj 4 rfl rfl (by kernel_rfl) (by kernel_rfl) (by kernel_rfl) rfl hS (dO ij cQ rfl rfl (i := 0) rfl (by decide) (by first | exact Nat.zero_add _ | rfl)) ?_
 refine aj 5 rfl rfl (by kernel_rfl) (by kernel_rfl) (by kernel_rfl) rfl hS (ao fm rfl (aD (k := 0) rfl rfl)) ?_
 refine aj 6 rfl rfl (by kernel_rfl) (by kernel_rfl) (by kernel_rfl) rfl hS (ac rfl) ?_
 refine aj 7 rfl rfl (by kernel_rfl) (by kernel_rfl) (by kernel_rfl) rfl hS (aF rfl) ?_
 refine aj 8 rfl rfl (by kernel_rfl) (by kernel_rfl) (by kernel_rfl) rfl hS (al rfl dE rfl eu rfl (by first | exact Nat.zero_add _ | rfl)) ?_
 refine aj 9 rfl rfl (by kernel_rfl) (by kernel_rfl) (by kernel_rfl) rfl hS (al rfl eK rfl ec rfl (by first | exact Nat.zero_add _ | rfl)) ?_
 refine aj 10 rfl rfl (by kernel_rfl) (by kernel_rfl) (by kernel_rfl) rfl hS (dO ij cQ rfl rfl (i := 1) rfl (by decide) (by first | exact Nat.zero_add _ | rfl)) ?_
 refine aj 11 rfl rfl (by kernel_rfl) (by kernel_rfl) (by kernel_rfl) rfl hS (ao fm rfl (aD (k := 0) rfl rfl)) ?_
 refine aj 12 rfl rfl (by kernel_rfl) (by kernel_rfl) (by kernel_rfl) rfl hS (ac rfl) ?_
 refine aj 13 rfl rfl (by kernel_rfl) (by kernel_rfl) (by kernel_rfl) rfl hS (aF rfl) ?_
 refine aj 14 rfl rfl (by kernel_rfl) (by kernel_rfl) (by kernel_rfl) rfl hS (al rfl dE rfl eu rfl (by first | exact Nat.zero_add _ | rfl)) ?_
 refine aj 15 rfl rfl (by kernel_rfl) (by kernel_rfl) (by kernel_rfl) rfl hS (al rfl eK rfl ec rfl (by first | exact Nat.zero_add _ | rfl)) ?_
 refine aj 16 rfl rfl (by kernel_rfl) (by kernel_rfl) (by kernel_rfl) rfl hS (dO ij cQ rfl rfl (i := 2) rfl (by decide) (by first | exact Nat.zero_add _ | rfl)) ?_
 refine aj 17 rfl rfl (by kernel_rfl) (by kernel_rfl) (by kernel_rfl) rfl hS (ao fm rfl (aD (k := 0) rfl rfl)) ?_
 refine aj 18 rfl rfl (by kernel_rfl) (by kernel_rfl) (by kernel_rfl) rfl hS (ai rfl) ?_
 refine aj 19 rfl rfl (by kernel_rfl) (by kernel_rfl) (by kernel_rfl) rfl hS (ai rfl) ?_
 refine aj 20 rfl rfl (by kernel_rfl) (by kernel_rfl) (by kernel_rfl) rfl hS (ai rfl) ?_
 refine bL (by kernel_rfl) ?_; clear hS
 refine ab (ae (aW (ae ?_)))
 refine cA [(cb, 0, _), (hb, 0, _)] 15 cz rfl (aK (aK aJ)) (fun hS => ?_)
 refine aj 0 rfl rfl (by kernel_rfl) (by kernel_rfl) (by kernel_rfl) rfl hS (ac rfl) ?_
 refine aj 1 rfl rfl (by kernel_rfl) (by kernel_rfl) (by kernel_rfl) rfl hS (aF rfl) ?_
 refine aj 2 rfl rfl (by kernel_rfl) (by kernel_rfl) (by kernel_rfl) rfl hS (al rfl dE rfl eu rfl (by first | exact Nat.zero_add _ | rfl)) ?_
 refine aj 3 rfl rfl (by kernel_rfl) (by kernel_rfl) (by kernel_rfl) rfl hS (al rfl eK rfl az rfl (by first | exact Nat.zero_add _ | rfl)) ?_
 refine aj 4 rfl rfl (by kernel_rfl) (by kernel_rfl) (by kernel_rfl) rfl hS (ao aQ rfl (by first | exact aD (k := 0) rfl rfl | exact aD (k := 1) rfl rfl)) ?_
 refine aj 5 rfl rfl (by kernel_rfl) (by kernel_rfl) (by kernel_rfl) rfl hS (ac rfl) ?_
 refine aj 6 rfl rfl (by kernel_rfl) (by kernel_rfl) (by kernel_rfl) rfl hS (aF rfl) ?_
 refine aj 7 rfl rfl (by kernel_rfl) (by kernel_rfl) (by kernel_rfl) rfl hS (al rfl dE rfl jw rfl (by first | exact Nat.zero_add _ | rfl)) ?_
 refine aj 8 rfl rfl (by kernel_rfl) (by kernel_rfl) (by kernel_rfl) rfl hS (ao mn rfl (by first | exact aD (k := 0) rfl rfl | exact aD (k := 1) rfl rfl)) ?_
 refine aj 9 rfl rfl (by kernel_rfl) (by kernel_rfl) (by kernel_rfl) rfl hS (aF rfl) ?_
 refine aj 10 rfl rfl (by kernel_rfl) (by kernel_rfl) (by kernel_rfl) rfl hS (al rfl gA rfl bN rfl (by first | exact Nat.zero_add _ | rfl)) ?_
 refine aj 11 rfl rfl (by kernel_rfl) (by kernel_rfl) (by kernel_rfl) rfl hS (al rfl bw rfl az rfl (by first | exact Nat.zero_add _ | rfl)) ?_
 refine aj 12 rfl rfl (by kernel_rfl) (by kernel_rfl) (by kernel_rfl) rfl hS (ao aQ rfl (by first | exact aD (k := 0) rfl rfl | exact aD (k := 1) rfl rfl)) ?_
 refine aj 13 rfl rfl (by kernel_rfl) (by kernel_rfl) (by kernel_rfl) rfl hS (bI rfl rfl) ?_
 refine aj 14 rfl rfl (by kernel_rfl) (by kernel_rfl) (by kernel_rfl) rfl hS (ai rfl) ?_
 refine bL (by kernel_rfl) ?_; clear hS
 refine ab ?_
 refine aw rfl ?_ ?_
 intro c2
 refine ae (ah (aa rfl (ai rfl) (aa rfl (ai rfl) (ag (ab (av (bj (aE (au (.inl rfl) (.cons (ak rfl) (.cons (ak rfl) .nil)) ?_)))))))))
 exact ⟨_, ⟨rfl, rfl⟩, inferInstance⟩
 intro c2
 exact absurd hi (by simpa using c2)
theorem Ez (k : Nat) (hk : k < 4) : aC Tryz.prog W0 318 [.int .i64 k] R (fun v B => v = .bool true ∧ B = R) := by
 refine aG func318 ntmps318 rfl rfl ?_
 refine ae (ah (aa rfl (ai rfl) (ag (ab (ae (ah (aa rfl (ac rfl) (aa rfl (cK rfl rfl) (aa rfl (ac rfl) ?_)))))))))
 refine cJ rfl rfl rfl ?_ ?_
 intro g1_3
 refine aa rfl (ac rfl) (ar rfl rfl (aa rfl (b0 rfl rfl) (aa rfl (aY rfl rfl) (aa rfl (ai rfl) (ag (ab (av (au (.inl rfl) (.cons (ak rfl) .nil) ?_))))))))
 rw [show decide ((k : Int) < 4) = true by simp; omega]
 exact ⟨_, ⟨rfl, rfl⟩, inferInstance⟩
 intro g1_3
 exact absurd (Int.natCast_nonneg k) g1_3
theorem xo (gb k : Nat) {rb vb pv tr : Nat} {cs : List Value} (h : GC rb vb pv tr cs) (hk : k < 4) : aC Tryz.prog W0 223 [pV gb, .int .i64 k] (pt gb (bT cs) :: R) (fun v B => v = wV 0 ∧ B = pt gb (bT cs) :: R) := by
 refine aG func223 ntmps223 rfl rfl ?_
 refine ae (ah (aa rfl (ai rfl) (ag (ab (ae (ae (ah (aa rfl (ac rfl) (am rfl (bn nV rfl (m5 gb h)) ?_)))))))))
 rintro _ B_ ⟨rfl, hB_⟩
 obtain rfl := hB_.symm
 refine aa rfl (ac rfl) ?_
 refine bC rfl rfl rfl ?_ ?_
 intro g1_3
 exact absurd g1_3 (by decide)
 intro g1_3
 refine aa rfl (ac rfl) (ar rfl rfl (am rfl (aU call318 rfl (Ez k hk)) ?_))
 rintro _ B_ ⟨rfl, hB_⟩
 obtain rfl := hB_.symm
 refine ar rfl rfl (aa rfl (bM rfl) (aa rfl (aM rfl rfl) (ag (ab ?_))))
 refine aw rfl ?_ ?_
 intro c1
 exact absurd c1 (by decide)
 intro c1
 refine aB (ab (ae (ah (aa rfl (ac rfl) (aa rfl (ac rfl) (aa rfl (aF rfl) ?_))))))
 refine aa rfl (al rfl ii rfl gz rfl (by first | exact Nat.zero_add _ | rfl)) ?_
 refine aa rfl (al rfl je rfl ec rfl (by first | exact Nat.zero_add _ | rfl)) ?_
 refine aa rfl (dO ij cQ rfl rfl (i := k) rfl hk (by first | exact Nat.zero_add _ | rfl)) ?_
 refine aa rfl (ao fm rfl (aA (h.rd k hk))) ?_
 refine aa rfl (ai rfl) (ag (ab (av (au (.inl rfl) (.cons (ak rfl) .nil) ?_))))
 exact ⟨_, ⟨rfl, rfl⟩, inferInstance⟩
theorem EA (hb : Nat) (c : Cfg) (ps pb db qb gb : Nat) : aC Tryz.prog W0 15 [pV hb] (pt hb (cX c ps pb db qb gb) :: R) (fun v B => v = pV gb ∧ B = pt hb (cX c ps pb db qb gb) :: R) := by
 refine aG func15 ntmps15 rfl rfl ?_
 refine ae (ah (aa rfl (ai rfl) (ag (ab (ae (ae (ah (aa rfl (ac rfl) (am rfl (bn pU rfl (nx hb c ps pb db qb gb)) ?_)))))))))
 rintro _ B_ ⟨rfl, hB_⟩
 obtain rfl := hB_.symm
 refine ag (ab ?_)
 refine aw rfl ?_ ?_
 intro c1
 exact absurd c1 (by decide)
 intro c1
 refine aB (ab (ae (ah (aa rfl (ac rfl) (aa rfl (aF rfl) ?_)))))
 refine aa rfl (al rfl gA rfl tv rfl (by first | exact Nat.zero_add _ | rfl)) ?_
 refine aa rfl (ao isAgg55 rfl (aA rfl)) ?_
 refine aa rfl (ai rfl) (ag (ab (av (au (.inl rfl) (.cons (ak rfl) .nil) ?_))))
 exact ⟨_, ⟨rfl, rfl⟩, inferInstance⟩
theorem EB (gb : Nat) (a b c : Int) : aC Tryz.prog W0 41 [pV gb] (pt gb (ia a b c) :: R) (fun v B => v = .bool false ∧ B = pt gb (ia a b c) :: R) := by
 refine aG func41 ntmps41 rfl rfl ?_
 refine ae (ah (aa rfl (ai rfl) (ag (ab (ae (ah (aa rfl (ac rfl) (aa rfl (dv underlying55 rfl rfl) (aa rfl (ac rfl) ?_)))))))))
 refine bC rfl rfl rfl ?_ ?_
 intro g1_3
 cases g1_3
 intro g1_3
 refine aa rfl (ac rfl) (ar rfl rfl (aa rfl (aF rfl) (ar rfl rfl ?_)))
 refine aa rfl (al rfl ya rfl cB rfl (by first | exact Nat.zero_add _ | rfl)) ?_
 refine ar rfl rfl (aa rfl (ao fM rfl (aA rfl)) ?_)
 refine ar rfl rfl (aa rfl (bM rfl) (aa rfl (aM rfl rfl) (aa rfl (ai rfl) (ag (ab (av (au (.inl rfl) (.cons (ak rfl) .nil) ?_)))))))
 exact ⟨_, ⟨rfl, rfl⟩, inferInstance⟩
theorem EC (gb : Nat) (a b c : Int) : aC Tryz.prog W0 16 [pV gb] (pt gb (ia a b c) :: R) (fun v B => v = du ∧ B = pt gb (ia a b c) :: R) := by
 have hcl : ∀ A, aC Tryz.prog W0 42 [du] A (fun v B => v = du ∧ B = A) := fun A => by
  refine aG func42 ntmps42 rfl rfl ?_
  refine ae (ah (aa rfl (ai rfl) (ag (ab (ae (ae (ah (aa rfl (ac rfl) (aa rfl (qw Fv rfl rfl) (ag (ab ?_)))))))))))
  refine aw rfl ?_ ?_
  intro c1
  refine ae (ah (aa rfl (ai rfl) (ag (ab (av (aE (au (.inl rfl) (.cons (ak rfl) .nil) ?_)))))))
  exact ⟨_, ⟨rfl, rfl⟩, inferInstance⟩
  intro c1
  exact absurd rfl c1
 refine aG func16 ntmps16 rfl rfl ?_
 refine ae (ah (aa rfl (ai rfl) (ag (ab (ae (ae (ah (aa rfl (ac rfl) (am rfl (bn call41 rfl (EB gb a b c)) ?_)))))))))
 rintro _ B_ ⟨rfl, hB_⟩
 obtain rfl := hB_.symm
 refine ag (ab ?_)
 refine aw rfl ?_ ?_
 intro c1
 exact absurd c1 (by decide)
 intro c1
 refine aB (ab (ae (ah (aa rfl (ac rfl) (aa rfl (aF rfl) ?_)))))
 refine aa rfl (al rfl ya rfl sizeOf127 rfl (by first | exact Nat.zero_add _ | rfl)) ?_
 refine aa rfl (al rfl underlying127 rfl sizeOf54 rfl (by first | exact Nat.zero_add _ | rfl)) ?_
 refine aa rfl (ao isAgg54 rfl (aA rfl)) ?_
 refine am rfl (aU call42 rfl (hcl _)) ?_
 rintro _ B_ ⟨rfl, hB_⟩
 obtain rfl := hB_.symm
 refine aa rfl (ai rfl) (ag (ab (av (au (.inl rfl) (.cons (ak rfl) .nil) ?_))))
 exact ⟨_, ⟨rfl, rfl⟩, inferInstance⟩
def eF (cf : Cfg) (i a : Nat) : Nat := if a < cf.nl.length then (if (dL cf a).1 = i then 0 else 4) else 3
def iy (cf : Cfg) (i a : Nat) : Nat := if a < cf.nl.length then (if (dL cf a).2 = i then 3 else 4) else 3
section
variable {W0 : World} {R : List HP} {cb gb i a b c d hb : Nat} {cf : Cfg} {ps pb db qb tb : Nat}
theorem ED (lv : Value) (h : CfK W0 cf) (hn : cf.nl.length ≤ 4) (ha : a < 4294967296) (hs : eF cf i a ≠ 0) :
    aC Tryz.prog W0 100 ([pV cb] ++ [] ++ []) (pt cb (dM gb i 8 a b c d hb lv) :: pt hb (cX cf ps pb db qb tb) :: R)
      (fun v B => v = .tuple #[.int .i64 (eF cf i a : Nat), wV 0] ∧ B = pt cb (dM gb i 8 a b c d hb lv) :: pt hb (cX cf ps pb db qb tb) :: R) := by
 simp only [List.append_nil]
 by_cases hl : a < cf.nl.length
 have hx : ¬ (dL cf a).1 = i := fun e => hs (by rw [eF, if_pos hl, if_pos e])
 have hv : gT cf a = .tuple #[.agg (dj (dL cf a)).toArray, .int .i64 (fV cf a), .int .i64 0] := by rw [gT, if_pos hl]
 rw [eF, if_pos hl, if_neg hx]
 refine aG yz ntmps100 rfl rfl ?_
 refine ae (ah (aa rfl (ai rfl) (aa rfl (ai rfl) (ag (ab (ae (ah (aa rfl (ac rfl) (am rfl (eX nZ rfl (m7 W0 _ cb gb i 8 a b c d hb lv cf ps pb db qb tb h hn ha)) ?_)))))))))
 rintro _ B_ ⟨rfl, hB_⟩
 obtain rfl := hB_.symm
 rw [hv]
 refine aa rfl (ac rfl) (aa rfl (aS rfl rfl) (aa rfl (aS rfl rfl) (aa rfl (aS rfl rfl) (am rfl (cM ic) ?_))))
 rintro _ _ ⟨br, rfl, rfl⟩
 refine bD (cD ei rfl rfl rfl rfl rfl) ?_
 rintro _ _ rfl
 refine aa rfl (ai rfl) (aa rfl (ai rfl) (ag (ab (ae (aW (ae (ah (aa rfl (ac rfl) (aa rfl (bI rfl rfl) (aa rfl (ai rfl) (ag (ab ?_))))))))))))
 refine aw rfl ?_ ?_
 intro c2
 exact absurd rfl c2
 intro c2
 refine ae ?_
 refine cA [(cb, 0, _), (br, 0, _)] 9 cz rfl (aK (aK aJ)) (fun hS => ?_)
 refine aj 0 rfl rfl (by kernel_rfl) (by kernel_rfl) (by kernel_rfl) rfl hS (al rfl et rfl az rfl (by first | exact Nat.zero_add _ | rfl)) ?_
 refine aj 1 rfl rfl (by kernel_rfl) (by kernel_rfl) (by kernel_rfl) rfl hS (ao aQ rfl (by first | exact aD (k := 0) rfl rfl | exact aD (k := 1) rfl rfl)) ?_
 refine aj 2 rfl rfl (by kernel_rfl) (by kernel_rfl) (by kernel_rfl) rfl hS (ac rfl) ?_
 refine aj 3 rfl rfl (by kernel_rfl) (by kernel_rfl) (by kernel_rfl) rfl hS (aF rfl) ?_
 refine aj 4 rfl rfl (by kernel_rfl) (by kernel_rfl) (by kernel_rfl) rfl hS (al rfl dE rfl eu rfl (by first | exact Nat.zero_add _ | rfl)) ?_
 refine aj 5 rfl rfl (by kernel_rfl) (by kernel_rfl) (by kernel_rfl) rfl hS (al rfl eK rfl az rfl (by first | exact Nat.zero_add _ | rfl)) ?_
 refine aj 6 rfl rfl (by kernel_rfl) (by kernel_rfl) (by kernel_rfl) rfl hS (ao aQ rfl (by first | exact aD (k := 0) rfl rfl | exact aD (k := 1) rfl rfl)) ?_
 refine aj 7 rfl rfl (by kernel_rfl) (by kernel_rfl) (by kernel_rfl) rfl hS (bI rfl rfl) ?_
 refine aj 8 rfl rfl (by kernel_rfl) (by kernel_rfl) (by kernel_rfl) rfl hS (ai rfl) ?_
 refine bL (by kernel_rfl) ?_; clear hS
 refine ab ?_
 refine aw rfl ?_ ?_
 intro c4
 refine ae (ah (aa rfl (ai rfl) (aa rfl (ai rfl) (ag (ab (av (bj (aE (au (.inl rfl) (.cons (ak rfl) (.cons (ak rfl) .nil)) ?_)))))))))
 exact ⟨_, ⟨rfl, rfl⟩, inferInstance⟩
 intro c4
 exact absurd (by simpa using c4) hx
 have hv : gT cf a = .tuple #[.agg #[.int .i64 0, .int .i64 0], .int .i64 0, .int .i64 3] := by rw [gT, if_neg hl]
 rw [eF, if_neg hl]
 refine aG yz ntmps100 rfl rfl ?_
 refine ae (ah (aa rfl (ai rfl) (aa rfl (ai rfl) (ag (ab (ae (ah (aa rfl (ac rfl) (am rfl (eX nZ rfl (m7 W0 _ cb gb i 8 a b c d hb lv cf ps pb db qb tb h hn ha)) ?_)))))))))
 rintro _ B_ ⟨rfl, hB_⟩
 obtain rfl := hB_.symm
 rw [hv]
 refine aa rfl (ac rfl) (aa rfl (aS rfl rfl) (aa rfl (aS rfl rfl) (aa rfl (aS rfl rfl) (am rfl (cM ic) ?_))))
 rintro _ _ ⟨br, rfl, rfl⟩
 refine bD (cD ei rfl rfl rfl rfl rfl) ?_
 rintro _ _ rfl
 refine aa rfl (ai rfl) (aa rfl (ai rfl) (ag (ab (ae (aW (ae (ah (aa rfl (ac rfl) (aa rfl (bI rfl rfl) (aa rfl (ai rfl) (ag (ab ?_))))))))))))
 refine aw rfl ?_ ?_
 intro c2
 refine ae (ah (aa rfl (ac rfl) (aa rfl (ai rfl) (aa rfl (ai rfl) (ag (ab (av (bj (aE (au (.inl rfl) (.cons (ak rfl) (.cons (ak rfl) .nil)) ?_))))))))))
 exact ⟨_, ⟨rfl, rfl⟩, inferInstance⟩
 intro c2
 exact absurd c2 (by decide)
theorem EE (lv : Value) (h : CfK W0 cf) (hr : rt cf = true) (ha : a < 4294967296) (hX : ¬ (a < cf.nl.length ∧ (dL cf a).2 = i)) :
    aC Tryz.prog W0 101 ([pV cb] ++ [] ++ []) (pt cb (dM gb i 9 a b c d hb lv) :: pt hb (cX cf ps pb db qb tb) :: R)
      (fun v B => v = .tuple #[.int .i64 (iy cf i a : Nat), wV 0] ∧ B = pt cb (dM gb i 9 a b c d hb lv) :: pt hb (cX cf ps pb db qb tb) :: R) := by
 have hn := (fb hr).nn
 simp only [List.append_nil]
 by_cases hl : a < cf.nl.length
 have hv : gT cf a = .tuple #[.agg (dj (dL cf a)).toArray, .int .i64 (fV cf a), .int .i64 0] := by rw [gT, if_pos hl]
 have hx : ¬ (dL cf a).2 = i := fun e => hX ⟨hl, e⟩
 rw [iy, if_pos hl, if_neg hx]
 refine aG yA ntmps101 rfl rfl ?_
 refine ae (ah (aa rfl (ai rfl) (aa rfl (ai rfl) (ag (ab (ae (ah (aa rfl (ac rfl) (am rfl (eX nZ rfl (m7 W0 _ cb gb i 9 a b c d hb lv cf ps pb db qb tb h hn ha)) ?_)))))))))
 rintro _ B_ ⟨rfl, hB_⟩
 obtain rfl := hB_.symm
 rw [hv]
 refine aa rfl (ac rfl) (aa rfl (aS rfl rfl) (aa rfl (aS rfl rfl) (aa rfl (aS rfl rfl) (am rfl (cM ic) ?_))))
 rintro _ _ ⟨br, rfl, rfl⟩
 refine bD (cD ei rfl rfl rfl rfl rfl) ?_
 rintro _ _ rfl
 refine aa rfl (ai rfl) (aa rfl (ai rfl) (ag (ab (ae (aW (ae (ah (aa rfl (ac rfl) (aa rfl (bI rfl rfl) (aa rfl (ai rfl) (ag (ab ?_))))))))))))
 refine aw rfl ?_ ?_
 intro c2
 exact absurd rfl c2
 intro c2
 refine ae ?_
 refine cA [(cb, 0, _), (br, 0, _)] 9 cz rfl (aK (aK aJ)) (fun hS => ?_)
 refine aj 0 rfl rfl (by kernel_rfl) (by kernel_rfl) (by kernel_rfl) rfl hS (al rfl et rfl az rfl (by first | exact Nat.zero_add _ | rfl)) ?_
 refine aj 1 rfl rfl (by kernel_rfl) (by kernel_rfl) (by kernel_rfl) rfl hS (ao aQ rfl (by first | exact aD (k := 0) rfl rfl | exact aD (k := 1) rfl rfl)) ?_
 refine aj 2 rfl rfl (by kernel_rfl) (by kernel_rfl) (by kernel_rfl) rfl hS (ac rfl) ?_
 refine aj 3 rfl rfl (by kernel_rfl) (by kernel_rfl) (by kernel_rfl) rfl hS (aF rfl) ?_
 refine aj 4 rfl rfl (by kernel_rfl) (by kernel_rfl) (by kernel_rfl) rfl hS (al rfl dE rfl eu rfl (by first | exact Nat.zero_add _ | rfl)) ?_
 refine aj 5 rfl rfl (by kernel_rfl) (by kernel_rfl) (by kernel_rfl) rfl hS (al rfl eK rfl az rfl (by first | exact Nat.zero_add _ | rfl)) ?_
 refine aj 6 rfl rfl (by kernel_rfl) (by kernel_rfl) (by kernel_rfl) rfl hS (ao aQ rfl (by first | exact aD (k := 0) rfl rfl | exact aD (k := 1) rfl rfl)) ?_
 refine aj 7 rfl rfl (by kernel_rfl) (by kernel_rfl) (by kernel_rfl) rfl hS (bI rfl rfl) ?_
 refine aj 8 rfl rfl (by kernel_rfl) (by kernel_rfl) (by kernel_rfl) rfl hS (ai rfl) ?_
 refine bL (by kernel_rfl) ?_; clear hS
 refine ab ?_
 refine aw rfl ?_ ?_
 intro c4
 refine ae (ah (aa rfl (ai rfl) (aa rfl (ai rfl) (ag (ab (av (bj (aE (au (.inl rfl) (.cons (ak rfl) (.cons (ak rfl) .nil)) ?_)))))))))
 exact ⟨_, ⟨rfl, rfl⟩, inferInstance⟩
 intro c4
 exact absurd (by simpa using c4) hx
 have hv : gT cf a = .tuple #[.agg #[.int .i64 0, .int .i64 0], .int .i64 0, .int .i64 3] := by rw [gT, if_neg hl]
 rw [iy, if_neg hl]
 refine aG yA ntmps101 rfl rfl ?_
 refine ae (ah (aa rfl (ai rfl) (aa rfl (ai rfl) (ag (ab (ae (ah (aa rfl (ac rfl) (am rfl (eX nZ rfl (m7 W0 _ cb gb i 9 a b c d hb lv cf ps pb db qb tb h hn ha)) ?_)))))))))
 rintro _ B_ ⟨rfl, hB_⟩
 obtain rfl := hB_.symm
 rw [hv]
 refine aa rfl (ac rfl) (aa rfl (aS rfl rfl) (aa rfl (aS rfl rfl) (aa rfl (aS rfl rfl) (am rfl (cM ic) ?_))))
 rintro _ _ ⟨br, rfl, rfl⟩
 refine bD (cD ei rfl rfl rfl rfl rfl) ?_
 rintro _ _ rfl
 refine aa rfl (ai rfl) (aa rfl (ai rfl) (ag (ab (ae (aW (ae (ah (aa rfl (ac rfl) (aa rfl (bI rfl rfl) (aa rfl (ai rfl) (ag (ab ?_))))))))))))
 refine aw rfl ?_ ?_
 intro c2
 refine ae (ah (aa rfl (ac rfl) (aa rfl (ai rfl) (aa rfl (ai rfl) (ag (ab (av (bj (aE (au (.inl rfl) (.cons (ak rfl) (.cons (ak rfl) .nil)) ?_))))))))))
 exact ⟨_, ⟨rfl, rfl⟩, inferInstance⟩
 intro c2
 exact absurd c2 (by decide)
theorem xp {cf : Cfg} {a : Nat} (hr : rt cf = true) (hl : a < cf.nl.length) : ∃ f : Nat, fV cf a = f ∧ f < bp cf := by
 have hR := fb hr
 have := jH hR.gs cf.gl.length (Nat.le_refl _)
 have := kS cf cf.gl.length
 refine ⟨(fV cf a).toNat, ?_, ?_⟩
 rw [fV, if_pos ⟨hr, by omega, by omega⟩]; omega
 rw [fV, if_pos ⟨hr, by omega, by omega⟩, bp]; omega
theorem EF (lv : Value) (h : CfK W0 cf) (hr : rt cf = true) (hl : a < cf.nl.length) (hx : (dL cf a).2 = i) {rb vb pv tr : Nat} {cs : List Value} (hG : GC rb vb pv tr cs) :
    aC Tryz.prog W0 101 ([pV cb] ++ [] ++ []) (pt cb (dM gb i 9 a b c d hb lv) :: pt hb (cX cf ps pb db qb tb) :: pt gb (bT cs) :: bG ps (List.replicate (bp cf) bE) :: R)
      (fun v B => v = .tuple #[.int .i64 3, wV 0] ∧ B = pt cb (dM gb i 9 a b c d hb lv) :: pt hb (cX cf ps pb db qb tb) :: pt gb (bT cs) :: bG ps (List.replicate (bp cf) bE) :: R) := by
 have hn := (fb hr).nn
 simp only [List.append_nil]
 obtain ⟨f, hf1, hf2⟩ := xp hr hl
 have hv : gT cf a = .tuple #[.agg (dj (dL cf a)).toArray, .int .i64 (f : Int), .int .i64 0] := by rw [gT, if_pos hl, hf1]
 have ha4 : a < 4 := by omega
 refine aG yA ntmps101 rfl rfl ?_
 refine ae (ah (aa rfl (ai rfl) (aa rfl (ai rfl) (ag (ab (ae (ah (aa rfl (ac rfl) ?_))))))))
 refine am rfl (eX nZ rfl (m7 W0 _ cb gb i 9 a b c d hb lv cf ps pb db qb tb h hn (by omega))) ?_
 rintro _ B_ ⟨rfl, hB_⟩
 obtain rfl := hB_.symm
 rw [hv]
 refine aa rfl (ac rfl) (aa rfl (aS rfl rfl) (aa rfl (aS rfl rfl) (aa rfl (aS rfl rfl) (am rfl (cM ic) ?_))))
 rintro _ _ ⟨br, rfl, rfl⟩
 refine bD (cD ei rfl rfl rfl rfl rfl) ?_
 rintro _ _ rfl
 refine aa rfl (ai rfl) (aa rfl (ai rfl) (ag (ab (ae (aW (ae (ah (aa rfl (ac rfl) (aa rfl (bI rfl rfl) (aa rfl (ai rfl) (ag (ab ?_))))))))))))
 refine aw rfl ?_ ?_
 intro c2
 exact absurd rfl c2
 intro c2
 refine ae ?_
 refine cA [(cb, 0, _), (br, 0, _)] 9 cz rfl (aK (aK aJ)) (fun hS => ?_)
 refine aj 0 rfl rfl (by kernel_rfl) (by kernel_rfl) (by kernel_rfl) rfl hS (al rfl et rfl az rfl (by first | exact Nat.zero_add _ | rfl)) ?_
 refine aj 1 rfl rfl (by kernel_rfl) (by kernel_rfl) (by kernel_rfl) rfl hS (ao aQ rfl (by first | exact aD (k := 0) rfl rfl | exact aD (k := 1) rfl rfl)) ?_
 refine aj 2 rfl rfl (by kernel_rfl) (by kernel_rfl) (by kernel_rfl) rfl hS (ac rfl) ?_
 refine aj 3 rfl rfl (by kernel_rfl) (by kernel_rfl) (by kernel_rfl) rfl hS (aF rfl) ?_
 refine aj 4 rfl rfl (by kernel_rfl) (by kernel_rfl) (by kernel_rfl) rfl hS (al rfl dE rfl eu rfl (by first | exact Nat.zero_add _ | rfl)) ?_
 refine aj 5 rfl rfl (by kernel_rfl) (by kernel_rfl) (by kernel_rfl) rfl hS (al rfl eK rfl az rfl (by first | exact Nat.zero_add _ | rfl)) ?_
 refine aj 6 rfl rfl (by kernel_rfl) (by kernel_rfl) (by kernel_rfl) rfl hS (ao aQ rfl (by first | exact aD (k := 0) rfl rfl | exact aD (k := 1) rfl rfl)) ?_
 refine aj 7 rfl rfl (by kernel_rfl) (by kernel_rfl) (by kernel_rfl) rfl hS (bI rfl rfl) ?_
 refine aj 8 rfl rfl (by kernel_rfl) (by kernel_rfl) (by kernel_rfl) rfl hS (ai rfl) ?_
 refine bL (by kernel_rfl) ?_; clear hS
 refine ab ?_
 refine aw rfl ?_ ?_
 intro c4
 exact absurd (by simpa using c4) (not_not_intro hx)
 intro c4
 refine aB (bH (ab (ae (ah (aa rfl (ac rfl) (aa rfl (aF rfl) ?_))))))
 refine aa rfl (al rfl dE rfl eu rfl (by first | exact Nat.zero_add _ | rfl)) ?_
 refine aa rfl (al rfl eK rfl ec rfl (by first | exact Nat.zero_add _ | rfl)) ?_
 refine aa rfl (dO ij cQ rfl rfl (i := 0) rfl (by decide) (by first | exact Nat.zero_add _ | rfl)) ?_
 refine aa rfl (ao fm rfl (aA rfl)) ?_
 refine aa rfl (gC gW eb rfl (aZ (by omega))) ?_
 refine aa rfl (ai rfl) (ag (ab (ae ?_)))
 refine cA [(cb, 0, _), (hb, 0, _)] 22 cz rfl (aK (aK aJ)) (fun hS => ?_)
 refine aj 0 rfl rfl (by kernel_rfl) (by kernel_rfl) (by kernel_rfl) rfl hS (ac rfl) ?_
 refine aj 1 rfl rfl (by kernel_rfl) (by kernel_rfl) (by kernel_rfl) rfl hS (aF rfl) ?_
 refine aj 2 rfl rfl (by kernel_rfl) (by kernel_rfl) (by kernel_rfl) rfl hS (al rfl dE rfl jw rfl (by first | exact Nat.zero_add _ | rfl)) ?_
 refine aj 3 rfl rfl (by kernel_rfl) (by kernel_rfl) (by kernel_rfl) rfl hS (ao mn rfl (by first | exact aD (k := 0) rfl rfl | exact aD (k := 1) rfl rfl)) ?_
 refine aj 4 rfl rfl (by kernel_rfl) (by kernel_rfl) (by kernel_rfl) rfl hS (aF rfl) ?_
 refine aj 5 rfl rfl (by kernel_rfl) (by kernel_rfl) (by kernel_rfl) rfl hS (al rfl gA rfl iA rfl (by first | exact Nat.zero_add _ | rfl)) ?_
 refine aj 6 rfl rfl (by kernel_rfl) (by kernel_rfl) (by kernel_rfl) rfl hS (ao kg rfl (by first | exact aD (k := 0) rfl rfl | exact aD (k := 1) rfl rfl)) ?_
 refine aj 7 rfl rfl (by kernel_rfl) (by kernel_rfl) (by kernel_rfl) rfl hS (ac rfl) ?_
 refine aj 8 rfl rfl (by kernel_rfl) (by kernel_rfl) (by kernel_rfl) rfl hS (ac rfl) ?_
 refine aj 9 rfl rfl (by kernel_rfl) (by kernel_rfl) (by kernel_rfl) rfl hS (aF rfl) ?_
 refine aj 10 rfl rfl (by kernel_rfl) (by kernel_rfl) (by kernel_rfl) rfl hS (al rfl dE rfl eu rfl (by first | exact Nat.zero_add _ | rfl)) ?_
 refine aj 11 rfl rfl (by kernel_rfl) (by kernel_rfl) (by kernel_rfl) rfl hS (al rfl eK rfl fD rfl (by first | exact Nat.zero_add _ | rfl)) ?_
 refine aj 12 rfl rfl (by kernel_rfl) (by kernel_rfl) (by kernel_rfl) rfl hS (ao gL rfl (by first | exact aD (k := 0) rfl rfl | exact aD (k := 1) rfl rfl)) ?_
 refine aj 13 rfl rfl (by kernel_rfl) (by kernel_rfl) (by kernel_rfl) rfl hS (ac rfl) ?_
 refine io (is := [14, 19]) (by kernel_rfl) rfl ⟨?_, ?_, trivial⟩
 skip
 refine eD rfl rfl (bn call223 rfl (xo gb a hG ha4)) rfl ?_; clear hS
 rintro _ B_ ⟨rfl, hB_⟩
 obtain rfl := hB_.symm
 refine ⟨(aK (aK aJ)), fun hS => ?_⟩
 refine io (is := [15, 19]) (by kernel_rfl) rfl ⟨?_, ?_, trivial⟩
 skip
 refine eD rfl rfl (bn yB rfl (sN W0 _ ps (bp cf) f hf2)) rfl ?_; clear hS
 rintro _ B_ ⟨rfl, hB_⟩
 obtain rfl := hB_.symm
 refine ⟨(aK (aK aJ)), fun hS => ?_⟩
 refine aj 16 rfl rfl (by kernel_rfl) (by kernel_rfl) (by kernel_rfl) rfl hS (ac rfl) ?_
 refine aj 17 rfl rfl (by kernel_rfl) (by kernel_rfl) (by kernel_rfl) rfl hS (aS rfl rfl) ?_
 refine aj 18 rfl rfl (by kernel_rfl) (by kernel_rfl) (by kernel_rfl) rfl hS (aS rfl rfl) ?_
 refine bA 19 (by kernel_rfl) rfl rfl (cM pY) rfl ?_; clear hS
 rintro _ _ ⟨bg, rfl, rfl⟩
 refine ⟨(aK (aK aJ)), fun hS => ?_⟩
 refine bA 20 (by kernel_rfl) rfl rfl (cD pZ rfl rfl rfl rfl rfl) rfl ?_; clear hS
 rintro _ _ rfl
 refine ⟨(aK (aK aJ)), fun hS => ?_⟩
 refine aj 21 rfl rfl (by kernel_rfl) (by kernel_rfl) (by kernel_rfl) rfl hS (ai rfl) ?_
 refine bL (by kernel_rfl) ?_; clear hS
 refine ab (ae (aW (ae (ah (aa rfl (ac rfl) (aa rfl (bI rfl rfl) (aa rfl (ai rfl) (ag (ab ?_)))))))))
 refine aw rfl ?_ ?_
 intro c8
 exact absurd rfl c8
 intro c8
 refine ae (ah ?_)
 refine aa rfl (al rfl tC rfl cB rfl (by first | exact Nat.zero_add _ | rfl)) ?_
 refine aa rfl (ao fM rfl (aA rfl)) ?_
 refine aa rfl (bM rfl) (aa rfl (ai rfl) (ag (ab ?_)))
 refine aw rfl ?_ ?_
 intro c10
 refine ae (ah (aa rfl (ai rfl) (aa rfl (ai rfl) (ag (ab (av (bj (aE (au (.inl rfl) (.cons (ak rfl) (.cons (ak rfl) .nil)) ?_)))))))))
 exact ⟨_, ⟨rfl, rfl⟩, inferInstance⟩
 intro c10
 exact absurd c10 (by decide)
 skip
 refine eD rfl rfl (cM pY) rfl ?_; clear hS
 rintro _ _ ⟨bg, rfl, rfl⟩
 refine ⟨(aK (aK aJ)), fun hS => ?_⟩
 refine bA 15 (by kernel_rfl) rfl rfl (bn yB rfl (sN W0 _ ps (bp cf) f hf2)) rfl ?_; clear hS
 rintro _ B_ ⟨rfl, hB_⟩
 obtain rfl := hB_.symm
 refine ⟨(aK (aK aJ)), fun hS => ?_⟩
 refine aj 16 rfl rfl (by kernel_rfl) (by kernel_rfl) (by kernel_rfl) rfl hS (ac rfl) ?_
 refine aj 17 rfl rfl (by kernel_rfl) (by kernel_rfl) (by kernel_rfl) rfl hS (aS rfl rfl) ?_
 refine aj 18 rfl rfl (by kernel_rfl) (by kernel_rfl) (by kernel_rfl) rfl hS (aS rfl rfl) ?_
 refine bA 20 (by kernel_rfl) rfl rfl (cD pZ rfl rfl rfl rfl rfl) rfl ?_; clear hS
 rintro _ _ rfl
 refine ⟨(aK (aK aJ)), fun hS => ?_⟩
 refine aj 21 rfl rfl (by kernel_rfl) (by kernel_rfl) (by kernel_rfl) rfl hS (ai rfl) ?_
 refine bL (by kernel_rfl) ?_; clear hS
 refine ab (ae (aW (ae (ah (aa rfl (ac rfl) (aa rfl (bI rfl rfl) (aa rfl (ai rfl) (ag (ab ?_)))))))))
 refine aw rfl ?_ ?_
 intro c8
 exact absurd rfl c8
 intro c8
 refine ae (ah ?_)
 refine aa rfl (al rfl tC rfl cB rfl (by first | exact Nat.zero_add _ | rfl)) ?_
 refine aa rfl (ao fM rfl (aA rfl)) ?_
 refine aa rfl (bM rfl) (aa rfl (ai rfl) (ag (ab ?_)))
 refine aw rfl ?_ ?_
 intro c10
 refine ae (ah (aa rfl (ai rfl) (aa rfl (ai rfl) (ag (ab (av (bj (aE (au (.inl rfl) (.cons (ak rfl) (.cons (ak rfl) .nil)) ?_)))))))))
 exact ⟨_, ⟨rfl, rfl⟩, inferInstance⟩
 intro c10
 exact absurd c10 (by decide)
 skip
 refine eD rfl rfl (cM pY) rfl ?_; clear hS
 rintro _ _ ⟨bg, rfl, rfl⟩
 refine ⟨(aK (aK aJ)), fun hS => ?_⟩
 refine bA 14 (by kernel_rfl) rfl rfl (bn call223 rfl (xo gb a hG ha4)) rfl ?_; clear hS
 rintro _ B_ ⟨rfl, hB_⟩
 obtain rfl := hB_.symm
 refine ⟨(aK (aK aJ)), fun hS => ?_⟩
 refine bA 15 (by kernel_rfl) rfl rfl (bn yB rfl (sN W0 _ ps (bp cf) f hf2)) rfl ?_; clear hS
 rintro _ B_ ⟨rfl, hB_⟩
 obtain rfl := hB_.symm
 refine ⟨(aK (aK aJ)), fun hS => ?_⟩
 refine aj 16 rfl rfl (by kernel_rfl) (by kernel_rfl) (by kernel_rfl) rfl hS (ac rfl) ?_
 refine aj 17 rfl rfl (by kernel_rfl) (by kernel_rfl) (by kernel_rfl) rfl hS (aS rfl rfl) ?_
 refine aj 18 rfl rfl (by kernel_rfl) (by kernel_rfl) (by kernel_rfl) rfl hS (aS rfl rfl) ?_
 refine bA 20 (by kernel_rfl) rfl rfl (cD pZ rfl rfl rfl rfl rfl) rfl ?_; clear hS
 rintro _ _ rfl
 refine ⟨(aK (aK aJ)), fun hS => ?_⟩
 refine aj 21 rfl rfl (by kernel_rfl) (by kernel_rfl) (by kernel_rfl) rfl hS (ai rfl) ?_
 refine bL (by kernel_rfl) ?_; clear hS
 refine ab (ae (aW (ae (ah (aa rfl (ac rfl) (aa rfl (bI rfl rfl) (aa rfl (ai rfl) (ag (ab ?_)))))))))
 refine aw rfl ?_ ?_
 intro c8
 exact absurd rfl c8
 intro c8
 refine ae (ah ?_)
 refine aa rfl (al rfl tC rfl cB rfl (by first | exact Nat.zero_add _ | rfl)) ?_
 refine aa rfl (ao fM rfl (aA rfl)) ?_
 refine aa rfl (bM rfl) (aa rfl (ai rfl) (ag (ab ?_)))
 refine aw rfl ?_ ?_
 intro c10
 refine ae (ah (aa rfl (ai rfl) (aa rfl (ai rfl) (ag (ab (av (bj (aE (au (.inl rfl) (.cons (ak rfl) (.cons (ak rfl) .nil)) ?_)))))))))
 exact ⟨_, ⟨rfl, rfl⟩, inferInstance⟩
 intro c10
 exact absurd c10 (by decide)
theorem EG (lg : Nat) (sp : List Value) (gbs : List Nat) (cap : Nat) (h : CfK W0 cf) (hr : rt cf = true) (hl : a < cf.nl.length) (hx : (dL cf a).1 = i) {j g2 : Nat} (hj : (dL cf a).2 = j) (hg : gbs[j]? = some g2) (hb4 : b < 4294967296) (hgl : gbs.length ≤ 4) {rb vb pv tr : Nat} {cs : List Value} (hG : GC rb vb pv tr cs) {fr : List bZ} (hF : dZ fr) (hfl : fr.length = bp cf) :
    aC Tryz.prog W0 100 ([pV cb] ++ [] ++ []) (pt cb (dM gb i 8 a b c d hb (.slice (some ⟨lg, 0, none⟩) gbs.length cap)) :: pt hb (cX cf ps pb db qb tb) :: pt lg (ax (gbs.map pV ++ sp) 50) :: bG ps fr :: pt g2 (bT cs) :: pt vb iu :: R)
      (fun v B => v = .tuple #[.int .i64 0, wV 0] ∧ ∃ Y, B = pt cb (dM gb i 8 a b c d hb (.slice (some ⟨lg, 0, none⟩) gbs.length cap)) :: pt hb (cX cf ps pb db qb tb) :: pt lg (ax (gbs.map pV ++ sp) 50) :: (Y ++ R)) := by
 have hn := (fb hr).nn
 have hjl := (List.getElem?_eq_some_iff.1 hg).1
 simp only [List.append_nil]
 obtain ⟨f, hf1, hf2⟩ := xp hr hl
 have hv : gT cf a = .tuple #[.agg #[.int .i64 i, .int .i64 j], .int .i64 (f : Int), .int .i64 0] := by
  rw [gT, if_pos hl, hf1]; unfold dj; rw [hx, hj]
 refine aG yz ntmps100 rfl rfl ?_
 refine ae (ah (aa rfl (ai rfl) (aa rfl (ai rfl) (ag (ab (ae (ah (aa rfl (ac rfl) ?_))))))))
 refine am rfl (eX nZ rfl (m7 W0 _ cb gb i 8 a b c d hb _ cf ps pb db qb tb h hn (by omega))) ?_
 rintro _ B_ ⟨rfl, hB_⟩
 obtain rfl := hB_.symm
 rw [hv]
 refine aa rfl (ac rfl) (aa rfl (aS rfl rfl) (aa rfl (aS rfl rfl) (aa rfl (aS rfl rfl) (am rfl (cM ic) ?_))))
 rintro _ _ ⟨br, rfl, rfl⟩
 refine bD (cD ei rfl rfl rfl rfl rfl) ?_
 rintro _ _ rfl
 refine aa rfl (ai rfl) (aa rfl (ai rfl) (ag (ab (ae (aW (ae (ah (aa rfl (ac rfl) (aa rfl (bI rfl rfl) (aa rfl (ai rfl) (ag (ab ?_))))))))))))
 refine aw rfl ?_ ?_
 intro c2
 exact absurd rfl c2
 intro c2
 refine ae ?_
 refine cA [(cb, 0, _), (br, 0, _)] 9 cz rfl (aK (aK aJ)) (fun hS => ?_)
 refine aj 0 rfl rfl (by kernel_rfl) (by kernel_rfl) (by kernel_rfl) rfl hS (al rfl et rfl az rfl (by first | exact Nat.zero_add _ | rfl)) ?_
 refine aj 1 rfl rfl (by kernel_rfl) (by kernel_rfl) (by kernel_rfl) rfl hS (ao aQ rfl (by first | exact aD (k := 0) rfl rfl | exact aD (k := 1) rfl rfl)) ?_
 refine aj 2 rfl rfl (by kernel_rfl) (by kernel_rfl) (by kernel_rfl) rfl hS (ac rfl) ?_
 refine aj 3 rfl rfl (by kernel_rfl) (by kernel_rfl) (by kernel_rfl) rfl hS (aF rfl) ?_
 refine aj 4 rfl rfl (by kernel_rfl) (by kernel_rfl) (by kernel_rfl) rfl hS (al rfl dE rfl eu rfl (by first | exact Nat.zero_add _ | rfl)) ?_
 refine aj 5 rfl rfl (by kernel_rfl) (by kernel_rfl) (by kernel_rfl) rfl hS (al rfl eK rfl az rfl (by first | exact Nat.zero_add _ | rfl)) ?_
 refine aj 6 rfl rfl (by kernel_rfl) (by kernel_rfl) (by kernel_rfl) rfl hS (ao aQ rfl (by first | exact aD (k := 0) rfl rfl | exact aD (k := 1) rfl rfl)) ?_
 refine aj 7 rfl rfl (by kernel_rfl) (by kernel_rfl) (by kernel_rfl) rfl hS (bI rfl rfl) ?_
 refine aj 8 rfl rfl (by kernel_rfl) (by kernel_rfl) (by kernel_rfl) rfl hS (ai rfl) ?_
 refine bL (by kernel_rfl) ?_; clear hS
 refine ab ?_
 refine aw rfl ?_ ?_
 intro c4
 exact absurd rfl c4
 intro c4
 refine aB (bH (ab (ae ?_)))
 refine cA [(cb, 0, _), (hb, 0, _)] 16 cz rfl (aK (aK aJ)) (fun hS => ?_)
 refine aj 0 rfl rfl (by kernel_rfl) (by kernel_rfl) (by kernel_rfl) rfl hS (ac rfl) ?_
 refine aj 1 rfl rfl (by kernel_rfl) (by kernel_rfl) (by kernel_rfl) rfl hS (aF rfl) ?_
 refine aj 2 rfl rfl (by kernel_rfl) (by kernel_rfl) (by kernel_rfl) rfl hS (al rfl dE rfl jw rfl (by first | exact Nat.zero_add _ | rfl)) ?_
 refine aj 3 rfl rfl (by kernel_rfl) (by kernel_rfl) (by kernel_rfl) rfl hS (ao mn rfl (by first | exact aD (k := 0) rfl rfl | exact aD (k := 1) rfl rfl)) ?_
 refine aj 4 rfl rfl (by kernel_rfl) (by kernel_rfl) (by kernel_rfl) rfl hS (aF rfl) ?_
 refine aj 5 rfl rfl (by kernel_rfl) (by kernel_rfl) (by kernel_rfl) rfl hS (al rfl gA rfl iA rfl (by first | exact Nat.zero_add _ | rfl)) ?_
 refine aj 6 rfl rfl (by kernel_rfl) (by kernel_rfl) (by kernel_rfl) rfl hS (ao kg rfl (by first | exact aD (k := 0) rfl rfl | exact aD (k := 1) rfl rfl)) ?_
 refine aj 7 rfl rfl (by kernel_rfl) (by kernel_rfl) (by kernel_rfl) rfl hS (ac rfl) ?_
 refine aj 8 rfl rfl (by kernel_rfl) (by kernel_rfl) (by kernel_rfl) rfl hS (ac rfl) ?_
 refine aj 9 rfl rfl (by kernel_rfl) (by kernel_rfl) (by kernel_rfl) rfl hS (aF rfl) ?_
 refine aj 10 rfl rfl (by kernel_rfl) (by kernel_rfl) (by kernel_rfl) rfl hS (al rfl dE rfl eu rfl (by first | exact Nat.zero_add _ | rfl)) ?_
 refine aj 11 rfl rfl (by kernel_rfl) (by kernel_rfl) (by kernel_rfl) rfl hS (al rfl eK rfl ec rfl (by first | exact Nat.zero_add _ | rfl)) ?_
 refine aj 12 rfl rfl (by kernel_rfl) (by kernel_rfl) (by kernel_rfl) rfl hS (dO ij cQ rfl rfl (i := 1) rfl (by decide) (by first | exact Nat.zero_add _ | rfl)) ?_
 refine aj 13 rfl rfl (by kernel_rfl) (by kernel_rfl) (by kernel_rfl) rfl hS (ao fm rfl (by first | exact aD (k := 0) rfl rfl | exact aD (k := 1) rfl rfl)) ?_
 refine bA 14 (by kernel_rfl) rfl rfl (bn call221 rfl (Er W0 _ ps fr f b hF (by omega) hb4)) rfl ?_; clear hS
 rintro _ _ ⟨rfl, fr', rfl⟩
 refine ⟨(aK (aK aJ)), fun hS => ?_⟩
 refine aj 15 rfl rfl (by kernel_rfl) (by kernel_rfl) (by kernel_rfl) rfl hS (ai rfl) ?_
 refine bL (by kernel_rfl) ?_; clear hS
 refine ab (ae (ae ?_))
 refine cA [(cb, 0, _), (br, 0, _)] 8 cz rfl (aK (aK aJ)) (fun hS => ?_)
 refine aj 0 rfl rfl (by kernel_rfl) (by kernel_rfl) (by kernel_rfl) rfl hS (al rfl et rfl az rfl (by first | exact Nat.zero_add _ | rfl)) ?_
 refine aj 1 rfl rfl (by kernel_rfl) (by kernel_rfl) (by kernel_rfl) rfl hS (ao aQ rfl (by first | exact aD (k := 0) rfl rfl | exact aD (k := 1) rfl rfl)) ?_
 refine aj 2 rfl rfl (by kernel_rfl) (by kernel_rfl) (by kernel_rfl) rfl hS (ac rfl) ?_
 refine aj 3 rfl rfl (by kernel_rfl) (by kernel_rfl) (by kernel_rfl) rfl hS (aF rfl) ?_
 refine aj 4 rfl rfl (by kernel_rfl) (by kernel_rfl) (by kernel_rfl) rfl hS (al rfl dE rfl nY rfl (by first | exact Nat.zero_add _ | rfl)) ?_
 refine aj 5 rfl rfl (by kernel_rfl) (by kernel_rfl) (by kernel_rfl) rfl hS (ao isAgg31 rfl (by first | exact aD (k := 0) rfl rfl | exact aD (k := 1) rfl rfl)) ?_
 refine aj 6 rfl rfl (by kernel_rfl) (by kernel_rfl) (by kernel_rfl) rfl hS (bu fC rfl) ?_
 refine aj 7 rfl rfl (by kernel_rfl) (by kernel_rfl) (by kernel_rfl) rfl hS (b0 rfl rfl) ?_
 refine bL (by kernel_rfl) ?_; clear hS
 refine ab ?_
 refine aw rfl ?_ ?_
 intro c7
 refine cA [(cb, 0, _), (br, 0, _), (lg, 0, _)] 10 cz rfl (aK (aK (aK aJ))) (fun hS => ?_)
 refine aj 0 rfl rfl (by kernel_rfl) (by kernel_rfl) (by kernel_rfl) rfl hS (ac rfl) ?_
 refine aj 1 rfl rfl (by kernel_rfl) (by kernel_rfl) (by kernel_rfl) rfl hS (aF rfl) ?_
 refine aj 2 rfl rfl (by kernel_rfl) (by kernel_rfl) (by kernel_rfl) rfl hS (al rfl dE rfl nY rfl (by first | exact Nat.zero_add _ | rfl)) ?_
 refine aj 3 rfl rfl (by kernel_rfl) (by kernel_rfl) (by kernel_rfl) rfl hS (ao isAgg31 rfl (by first | exact aD (k := 0) rfl rfl | exact aD (k := 1) rfl rfl | exact aD (k := 2) rfl rfl)) ?_
 refine aj 4 rfl rfl (by kernel_rfl) (by kernel_rfl) (by kernel_rfl) rfl hS (al rfl et rfl az rfl (by first | exact Nat.zero_add _ | rfl)) ?_
 refine aj 5 rfl rfl (by kernel_rfl) (by kernel_rfl) (by kernel_rfl) rfl hS (ao aQ rfl (by first | exact aD (k := 0) rfl rfl | exact aD (k := 1) rfl rfl | exact aD (k := 2) rfl rfl)) ?_
 refine aj 6 rfl rfl (by kernel_rfl) (by kernel_rfl) (by kernel_rfl) rfl hS (ce fC fD rfl rfl rfl hjl (by first | exact Nat.zero_add _ | rfl)) ?_
 refine aj 7 rfl rfl (by kernel_rfl) (by kernel_rfl) (by kernel_rfl) rfl hS (ao gL rfl (aD (k := 2) rfl (kY hg))) ?_
 refine bA 8 (by kernel_rfl) rfl rfl (bn call56 rfl (E0 g2 hG)) rfl ?_; clear hS
 rintro _ B_ ⟨rfl, hB_⟩
 obtain rfl := hB_.symm
 refine ⟨(aK (aK (aK aJ))), fun hS => ?_⟩
 refine bA 9 (by kernel_rfl) rfl rfl (bn call57 rfl (Em vb)) rfl ?_; clear hS
 rintro _ _ ⟨rfl, va, vc, rfl⟩
 refine ⟨(aK (aK (aK aJ))), fun hS => ?_⟩
 refine bL (by kernel_rfl) ?_; clear hS
 refine ab (ae (ah (aa rfl (ac rfl) (aa rfl (ai rfl) (aa rfl (ai rfl) (ag (ab (av (au (.inl rfl) (.cons (ak rfl) (.cons (ak rfl) .nil)) ?_)))))))))
 refine ⟨_, ⟨rfl, [bG ps fr', pt g2 (bT cs), pt vb (fW true 1 1 (.slice va 1 vc))], rfl⟩, ?_⟩
 simp only [List.cons_append, List.nil_append]
 exact inferInstance
 intro c7
 omega
end
section
variable {rb vb pv tr : Nat} {cs : List Value}
theorem pE (W0 : World) (hb : Nat) (cf : Cfg) (ps pb db qb gb : Nat) (a : Option Addr) (cap : Nat) (gbs : List Nat) (i g : Nat) (hg : gbs[i]? = some g) (hi4 : gbs.length ≤ 4) (rl : List Nat) (pc : Nat) (es : List Evt)
    (h : GC rb vb pv tr cs) (hl : rl.length = 16) (hn : es.length < 4096) (hp : pc < 1000) (n e : Nat) (hw : rl.getD 1 0 = n) (hn2 : n ≠ 2) (hn3 : n ≠ 3) (he : e < 100) (fid : FuncId) (X : List HP) (Q : List HP → Prop)
    (hcall : ∀ args w, (callFunc fid args).run Tryz.prog w = .ok (.enter fid args) w)
    (hHow : ∀ cb lv R, aC Tryz.prog W0 38 [pV cb] (pt cb (dM g i n (rl.getD 2 0) (rl.getD 3 0) (rl.getD 4 0) (rl.getD 5 0) hb lv) :: R)
      (fun v B => v = .func (.func fid) #[pV cb] #[] ∧ B = pt cb (dM g i n (rl.getD 2 0) (rl.getD 3 0) (rl.getD 4 0) (rl.getD 5 0) hb lv) :: R))
    (hDo : ∀ cb lg sp, aC Tryz.prog W0 fid ([pV cb] ++ [] ++ []) (pt cb (dM g i n (rl.getD 2 0) (rl.getD 3 0) (rl.getD 4 0) (rl.getD 5 0) hb (.slice (some ⟨lg, 0, none⟩) gbs.length cap)) :: pt hb (cX cf ps pb db qb gb) :: pt lg (ax (gbs.map pV ++ sp) 50) :: pt g (bT cs) :: pt rb (bS rl pc) :: cq tr es :: X)
      (fun v B => v = .tuple #[.int .i64 e, wV 0] ∧ ∃ Y, Q Y ∧ B = pt cb (dM g i n (rl.getD 2 0) (rl.getD 3 0) (rl.getD 4 0) (rl.getD 5 0) hb (.slice (some ⟨lg, 0, none⟩) gbs.length cap)) :: pt hb (cX cf ps pb db qb gb) :: pt lg (ax (gbs.map pV ++ sp) 50) :: pt g (bT cs) :: pt rb (bS rl pc) :: cq tr es :: Y)) :
    aC Tryz.prog W0 14 [pV hb, .slice a gbs.length cap, .int .i64 i] (pt hb (cX cf ps pb db qb gb) :: osl 50 1 (.slice a gbs.length cap) (gbs.map pV) :: pt g (bT cs) :: pt rb (bS rl pc) :: cq tr es :: X)
      (fun v B => v = .tuple #[.int .i64 e, .int .i64 0] ∧ ∃ Y, Q Y ∧ B = pt hb (cX cf ps pb db qb gb) :: osl 50 1 (.slice a gbs.length cap) (gbs.map pV) :: pt g (bT cs) :: pt rb (bS (dp rl e 0) (pc + 4)) :: cq tr (es ++ [⟨2, 0, n, e, pc, dp rl e 0⟩]) :: Y) := by
 have hi := (List.getElem?_eq_some_iff.1 hg).1
 refine aG func14 ntmps14 rfl rfl ?_
 refine ae (ah (aa rfl (ai rfl) (aa rfl (ai rfl) (ag (ab (ae (ae ?_)))))))
 refine ed (r := osl 50 1) (b := .slice a gbs.length cap) (gN (fun h1 h2 => by have := congrArg List.length h2; rw [List.length_map, List.length_nil] at this; omega) fun lg nn c2 sp h1 h2 h3 h4 h5 => ?_)
 cases h1
 refine ah (aa rfl (ac rfl) (am rfl (bn pU rfl (nx hb cf ps pb db qb gb)) ?_))
 rintro _ B_ ⟨rfl, hB_⟩
 obtain rfl := hB_.symm
 refine aa rfl (ac rfl) ?_
 refine bC rfl rfl rfl ?_ ?_
 intro g1_3
 exact absurd g1_3 (by decide)
 intro g1_3
 refine aa rfl (ac rfl) (ar rfl rfl (aa rfl (b0 rfl rfl) (aa rfl (aM rfl rfl) (aa rfl (ac rfl) ?_))))
 refine bC rfl rfl rfl ?_ ?_
 intro g1_7
 omega
 intro g1_7
 refine aa rfl (ac rfl) (ar rfl rfl (aa rfl (ac rfl) (ar rfl rfl (aa rfl (bu fC rfl) (ar rfl rfl (aa rfl (cK rfl rfl) (aa rfl (aM rfl rfl) (aa rfl (ac rfl) ?_))))))))
 refine bC rfl rfl rfl ?_ ?_
 intro g1_13
 omega
 intro g1_13
 refine aa rfl (ac rfl) (ar rfl rfl (aa rfl (ac rfl) (ar rfl rfl ?_)))
 refine aa rfl (ce fC fD rfl rfl rfl hi (by first | exact Nat.zero_add _ | rfl)) ?_
 refine ar rfl rfl (aa rfl (ao gL rfl (aA (kY hg))) ?_)
 refine ar rfl rfl (aa rfl (dv tx rfl rfl) (aa rfl (aM rfl rfl) (ag (ab ?_))))
 refine aw rfl ?_ ?_
 intro c1
 cases c1
 intro c1
 refine aB (ab (ae (ah (aa rfl (ac rfl) (aa rfl (ac rfl) ?_)))))
 refine aa rfl (ce fC fD rfl rfl rfl hi (by first | exact Nat.zero_add _ | rfl)) ?_
 refine aa rfl (ao gL rfl (aA (kY hg))) ?_
 refine am rfl (eX call37 rfl (xj g rl pc h hl)) ?_
 rintro _ B_ ⟨rfl, hB_⟩
 obtain rfl := hB_.symm
 rw [hw]
 refine aa rfl (ac rfl) (aa rfl (aS rfl rfl) (aa rfl (aS rfl rfl) (am rfl (cM mj) ?_)))
 rintro _ _ ⟨b9, rfl, rfl⟩
 refine aa rfl (ai rfl) (bD (cD ec rfl rfl rfl rfl rfl) ?_)
 rintro _ _ rfl
 refine ag (ab (ae ?_))
 refine cA [(lg, 0, _), (b9, 0, _)] 13 cz rfl (aK (aK aJ)) (fun hS => ?_)
 refine aj 0 rfl rfl (by kernel_rfl) (by kernel_rfl) (by kernel_rfl) rfl hS (ac rfl) ?_
 refine aj 1 rfl rfl (by kernel_rfl) (by kernel_rfl) (by kernel_rfl) rfl hS (ac rfl) ?_
 refine aj 2 rfl rfl (by kernel_rfl) (by kernel_rfl) (by kernel_rfl) rfl hS (ce fC fD rfl rfl rfl hi (by first | exact Nat.zero_add _ | rfl)) ?_
 refine aj 3 rfl rfl (by kernel_rfl) (by kernel_rfl) (by kernel_rfl) rfl hS (ao gL rfl (aD (k := 0) rfl (kY hg))) ?_
 refine aj 4 rfl rfl (by kernel_rfl) (by kernel_rfl) (by kernel_rfl) rfl hS (ac rfl) ?_
 refine aj 5 rfl rfl (by kernel_rfl) (by kernel_rfl) (by kernel_rfl) rfl hS (ac rfl) ?_
 refine aj 6 rfl rfl (by kernel_rfl) (by kernel_rfl) (by kernel_rfl) rfl hS (cV ks ec rfl (dm (k := 1) rfl) rfl) ?_
 refine aj 7 rfl rfl (by kernel_rfl) (by kernel_rfl) (by kernel_rfl) rfl hS (bY eK Fs (aH fD (aH az (aH cQ (aH ec (aH az bX))))) (bq rfl fD rfl rfl (Nat.le_of_ble_eq_true rfl) SetL.eq (bq rfl az rfl rfl (Nat.le_of_ble_eq_true rfl) SetL.eq (bq rfl cQ rfl rfl (Nat.le_of_ble_eq_true rfl) SetL.eq (im rfl ec rfl rfl (Nat.le_of_ble_eq_true rfl) SetRL.eq bW))))) ?_
 refine aj 8 rfl rfl (by kernel_rfl) (by kernel_rfl) (by kernel_rfl) rfl hS (ac rfl) ?_
 refine aj 9 rfl rfl (by kernel_rfl) (by kernel_rfl) (by kernel_rfl) rfl hS (ac rfl) ?_
 refine aj 10 rfl rfl (by kernel_rfl) (by kernel_rfl) (by kernel_rfl) rfl hS (bY dE Ft (aH eu (aH jw (aH nY bX))) (im rfl eu rfl rfl (Nat.le_of_ble_eq_true rfl) SetRL.eq (bq rfl jw rfl rfl (Nat.le_of_ble_eq_true rfl) SetL.eq (bq rfl nY rfl rfl (Nat.le_of_ble_eq_true rfl) SetL.eq bW)))) ?_
 refine bA 11 (by kernel_rfl) rfl rfl (bJ rfl) rfl ?_; clear hS
 rintro _ _ ⟨cb, rfl, rfl⟩
 refine ⟨(aK (aK aJ)), fun hS => ?_⟩
 refine aj 12 rfl rfl (by kernel_rfl) (by kernel_rfl) (by kernel_rfl) rfl hS (ai rfl) ?_
 refine bL (by kernel_rfl) ?_; clear hS
 refine ab (ae (iJ (b := cb) (o' := dM g i n (rl.getD 2 0) (rl.getD 3 0) (rl.getD 4 0) (rl.getD 5 0) hb (.slice (some ⟨lg, 0, none⟩) gbs.length cap)) rfl ?_))
 refine ah (aa rfl (ac rfl) (am rfl (bn call38 rfl (hHow cb (.slice (some ⟨lg, 0, none⟩) gbs.length cap) _)) ?_))
 rintro _ B_ ⟨rfl, hB_⟩
 obtain rfl := hB_.symm
 refine aa rfl (ai rfl) (ag (ab (ae (f9 (B := pt cb (dM g i n (rl.getD 2 0) (rl.getD 3 0) (rl.getD 4 0) (rl.getD 5 0) hb (.slice (some ⟨lg, 0, none⟩) gbs.length cap)) :: pt hb (cX cf ps pb db qb gb) :: pt lg (ax (gbs.map pV ++ sp) 50) :: pt g (bT cs) :: pt rb (bS rl pc) :: cq tr es :: X) inferInstance ?_))))
 refine ah (aa rfl (ac rfl) (am rfl (ot (us := [pV cb]) (cs := []) rfl hcall rfl (hDo cb lg sp)) ?_))
 rintro _ B_ ⟨rfl, Y, hQ, hB_⟩
 obtain rfl := hB_.symm
 refine aa rfl (ac rfl) (aa rfl (aS rfl rfl) (aa rfl (aS rfl rfl) (aa rfl (ai rfl) (aa rfl (ai rfl) (ag (ab ?_))))))
 refine gM (fun _ : Unit => True) (fun _ => [(10, pV cb), (12, .int .i64 e), (13, wV 0)]) (fun _ => pt cb (dM g i n (rl.getD 2 0) (rl.getD 3 0) (rl.getD 4 0) (rl.getD 5 0) hb (.slice (some ⟨lg, 0, none⟩) gbs.length cap)) :: pt hb (cX cf ps pb db qb gb) :: pt lg (ax (gbs.map pV ++ sp) 50) :: pt g (bT cs) :: pt rb (bS rl pc) :: cq tr es :: Y) ?_ ?_
 skip
 refine ae (ah (aa rfl (ac rfl) (aa rfl (bI rfl rfl) (aa rfl (ac rfl) ?_))))
 refine cJ rfl rfl rfl ?_ ?_
 intro g7_3
 refine aa rfl (ac rfl) (ar rfl rfl (aa rfl (bI rfl rfl) (aa rfl (aY rfl rfl) (ag (ab ?_)))))
 refine aw rfl ?_ ?_
 intro c7
 refine ah (aa rfl (ai rfl) (ag (ab ?_)))
 refine dz () ?_ ?_ ?_
 trivial
 · repeat (first | exact aX | refine aV rfl ?_)
 exact inferInstance
 intro c7
 refine aB (ab ?_)
 refine dz () ?_ ?_ ?_
 trivial
 · repeat (first | exact aX | refine aV rfl ?_)
 exact inferInstance
 intro g7_3
 refine ap rfl rfl rfl rfl (aa rfl (aM rfl rfl) (ag (ab (eY rfl (aB (ab ?_))))))
 refine dz () ?_ ?_ ?_
 trivial
 · repeat (first | exact aX | refine aV rfl ?_)
 exact inferInstance
 intro _ _
 refine ae (ah (aa rfl (ac rfl) (aa rfl (aF rfl) ?_)))
 refine aa rfl (al rfl dE rfl eu rfl (by first | exact Nat.zero_add _ | rfl)) ?_
 refine aa rfl (al rfl eK rfl fD rfl (by first | exact Nat.zero_add _ | rfl)) ?_
 refine aa rfl (ao gL rfl (aA rfl)) ?_
 refine aa rfl (ac rfl) (aa rfl (ac rfl) (am rfl (kx call39 rfl (xh g rl pc es e 0 h hl hn he hp)) ?_))
 rintro _ B_ ⟨rfl, hB_⟩
 obtain rfl := hB_.symm
 rw [hw]
 refine ag (ab (ae (ah (aa rfl (ac rfl) (am rfl (bn call40 rfl (xk cb g i hb n _ _ _ _ _ hn2 hn3)) ?_)))))
 rintro _ B_ ⟨rfl, hB_⟩
 obtain rfl := hB_.symm
 refine ag (ab (ae ?_))
 refine cA [(cb, 0, _)] 8 cz rfl (aK aJ) (fun hS => ?_)
 refine aj 0 rfl rfl (by kernel_rfl) (by kernel_rfl) (by kernel_rfl) rfl hS (ac rfl) ?_
 refine aj 1 rfl rfl (by kernel_rfl) (by kernel_rfl) (by kernel_rfl) rfl hS (ac rfl) ?_
 refine aj 2 rfl rfl (by kernel_rfl) (by kernel_rfl) (by kernel_rfl) rfl hS (aF rfl) ?_
 refine aj 3 rfl rfl (by kernel_rfl) (by kernel_rfl) (by kernel_rfl) rfl hS (al rfl dE rfl eu rfl (by first | exact Nat.zero_add _ | rfl)) ?_
 refine aj 4 rfl rfl (by kernel_rfl) (by kernel_rfl) (by kernel_rfl) rfl hS (al rfl eK rfl az rfl (by first | exact Nat.zero_add _ | rfl)) ?_
 refine aj 5 rfl rfl (by kernel_rfl) (by kernel_rfl) (by kernel_rfl) rfl hS (ao aQ rfl (aD (k := 0) rfl rfl)) ?_
 refine aj 6 rfl rfl (by kernel_rfl) (by kernel_rfl) (by kernel_rfl) rfl hS (ai rfl) ?_
 refine aj 7 rfl rfl (by kernel_rfl) (by kernel_rfl) (by kernel_rfl) rfl hS (ai rfl) ?_
 refine bL (by kernel_rfl) ?_; clear hS
 refine ab (av (au (.inl rfl) (.cons (ak rfl) (.cons (ak rfl) .nil)) ?_))
 refine ⟨_, ⟨rfl, Y, hQ, rfl⟩, ?_⟩
 have en := fa (E := 50) (sz := 1) (g := lg) (n := gbs.length) (cap := cap) (xs := gbs.map pV) (sp := sp) (A := pt lg (ax (gbs.map pV ++ sp) 50) :: pt g (bT cs) :: pt rb (bS (dp rl e 0) (pc + 4)) :: cq tr (es ++ [⟨2, 0, n, e, pc, dp rl e 0⟩]) :: Y) (B := pt g (bT cs) :: pt rb (bS (dp rl e 0) (pc + 4)) :: cq tr (es ++ [⟨2, 0, n, e, pc, dp rl e 0⟩]) :: Y) h2 h3 (by rw [List.length_map]; omega) h5
 exact (inferInstance : Ent _ (pt hb (cX cf ps pb db qb gb) :: pt lg (ax (gbs.map pV ++ sp) 50) :: pt g (bT cs) :: pt rb (bS (dp rl e 0) (pc + 4)) :: cq tr (es ++ [⟨2, 0, n, e, pc, dp rl e 0⟩]) :: Y)).trans (Ent.cons en)
theorem xq (W0 : World) (cb gb i hb a b c d : Nat) (lv : Value) (R : List HP) : aC Tryz.prog W0 38 [pV cb] (pt cb (dM gb i 8 a b c d hb lv) :: R) (fun v B => v = .func (.func 100) #[pV cb] #[] ∧ B = pt cb (dM gb i 8 a b c d hb lv) :: R) := by
 refine aG tz ntmps38 rfl rfl ?_
 refine ae (ah (aa rfl (ai rfl) (ag (ab (ae (ae (ah (aa rfl (ac rfl) (aa rfl (aF rfl) ?_)))))))))
 refine aa rfl (al rfl dE rfl eu rfl (by first | exact Nat.zero_add _ | rfl)) ?_
 refine aa rfl (al rfl eK rfl cQ rfl (by first | exact Nat.zero_add _ | rfl)) ?_
 refine aa rfl (ao fm rfl (aA rfl)) ?_
 refine ag (ab (aW (ae (ah (aa rfl (cu rfl rfl) (aa rfl (ai rfl) (ag (ab ?_))))))))
 refine aw rfl ?_ ?_
 intro c2
 exact absurd c2 (by decide)
 intro c2
 refine ae (ah (aa rfl (cu rfl rfl) (aa rfl (ai rfl) (ag (ab ?_)))))
 refine aw rfl ?_ ?_
 intro c4
 refine ae (ah (aa rfl (ac rfl) (aa rfl (ip rfl rfl) ?_)))
 refine aa rfl (ai rfl) (ag (ab (av (bj (aE (au (.inl rfl) (.cons (ak rfl) .nil) ?_))))))
 exact ⟨_, ⟨rfl, rfl⟩, inferInstance⟩
 intro c4
 exact absurd rfl c4
theorem EH (W0 : World) (cb gb i hb a b c d : Nat) (lv : Value) (R : List HP) : aC Tryz.prog W0 38 [pV cb] (pt cb (dM gb i 9 a b c d hb lv) :: R) (fun v B => v = .func (.func 101) #[pV cb] #[] ∧ B = pt cb (dM gb i 9 a b c d hb lv) :: R) := by
 refine aG tz ntmps38 rfl rfl ?_
 refine ae (ah (aa rfl (ai rfl) (ag (ab (ae (ae (ah (aa rfl (ac rfl) (aa rfl (aF rfl) ?_)))))))))
 refine aa rfl (al rfl dE rfl eu rfl (by first | exact Nat.zero_add _ | rfl)) ?_
 refine aa rfl (al rfl eK rfl cQ rfl (by first | exact Nat.zero_add _ | rfl)) ?_
 refine aa rfl (ao fm rfl (aA rfl)) ?_
 refine ag (ab (aW (ae (ah (aa rfl (cu rfl rfl) (aa rfl (ai rfl) (ag (ab ?_))))))))
 refine aw rfl ?_ ?_
 intro c2
 exact absurd c2 (by decide)
 intro c2
 refine ae (ah (aa rfl (cu rfl rfl) (aa rfl (ai rfl) (ag (ab ?_)))))
 refine aw rfl ?_ ?_
 intro c4
 exact absurd c4 (by decide)
 intro c4
 refine ae (ah (aa rfl (cu rfl rfl) (aa rfl (ai rfl) (ag (ab ?_)))))
 refine aw rfl ?_ ?_
 intro c6
 refine ae (ah (aa rfl (ac rfl) (aa rfl (ip rfl rfl) ?_)))
 refine aa rfl (ai rfl) (ag (ab (av (bj (aE (au (.inl rfl) (.cons (ak rfl) .nil) ?_))))))
 exact ⟨_, ⟨rfl, rfl⟩, inferInstance⟩
 intro c6
 exact absurd rfl c6
theorem EI (W0 : World) (cb gb i hb a b c d : Nat) (lv : Value) (R : List HP) : aC Tryz.prog W0 38 [pV cb] (pt cb (dM gb i 13 a b c d hb lv) :: R) (fun v B => v = .func (.func 102) #[pV cb] #[] ∧ B = pt cb (dM gb i 13 a b c d hb lv) :: R) := by
 refine aG tz ntmps38 rfl rfl ?_
 refine ae (ah (aa rfl (ai rfl) (ag (ab (ae (ae (ah (aa rfl (ac rfl) (aa rfl (aF rfl) ?_)))))))))
 refine aa rfl (al rfl dE rfl eu rfl (by first | exact Nat.zero_add _ | rfl)) ?_
 refine aa rfl (al rfl eK rfl cQ rfl (by first | exact Nat.zero_add _ | rfl)) ?_
 refine aa rfl (ao fm rfl (aA rfl)) ?_
 refine ag (ab (aW (ae (ah (aa rfl (cu rfl rfl) (aa rfl (ai rfl) (ag (ab ?_))))))))
 refine aw rfl ?_ ?_
 intro c2
 exact absurd c2 (by decide)
 intro c2
 refine ae (ah (aa rfl (cu rfl rfl) (aa rfl (ai rfl) (ag (ab ?_)))))
 refine aw rfl ?_ ?_
 intro c4
 exact absurd c4 (by decide)
 intro c4
 refine ae (ah (aa rfl (cu rfl rfl) (aa rfl (ai rfl) (ag (ab ?_)))))
 refine aw rfl ?_ ?_
 intro c6
 exact absurd c6 (by decide)
 intro c6
 refine ae (ah (aa rfl (cu rfl rfl) (aa rfl (ai rfl) (ag (ab ?_)))))
 refine aw rfl ?_ ?_
 intro c8
 refine ae (ah (aa rfl (ac rfl) (aa rfl (ip rfl rfl) ?_)))
 refine aa rfl (ai rfl) (ag (ab (av (bj (aE (au (.inl rfl) (.cons (ak rfl) .nil) ?_))))))
 exact ⟨_, ⟨rfl, rfl⟩, inferInstance⟩
 intro c8
 exact absurd rfl c8
section
theorem EJ (W0 : World) (hb : Nat) (cf : Cfg) (ps pb db qb gb : Nat) (a : Option Addr) (cap : Nat) (gbs : List Nat) (i g : Nat) (hg : gbs[i]? = some g) (hi4 : gbs.length ≤ 4) (rl : List Nat) (pc : Nat) (es : List Evt)  (h : GC rb vb pv tr cs) (hl : rl.length = 16) (hn : es.length < 4096) (hp : pc < 1000) (X : List HP) (hw : rl.getD 1 0 = 13) (hi : (i : Int) ≠ cf.gate) :
    aC Tryz.prog W0 14 [pV hb, .slice a gbs.length cap, .int .i64 i] (pt hb (cX cf ps pb db qb gb) :: osl 50 1 (.slice a gbs.length cap) (gbs.map pV) :: pt g (bT cs) :: pt rb (bS rl pc) :: cq tr es :: X)
      (fun v B => v = .tuple #[.int .i64 ((4 : Nat) : Int), .int .i64 0] ∧ ∃ Y, Y = X ∧ B = pt hb (cX cf ps pb db qb gb) :: osl 50 1 (.slice a gbs.length cap) (gbs.map pV) :: pt g (bT cs) :: pt rb (bS (dp rl 4 0) (pc + 4)) :: cq tr (es ++ [⟨2, 0, 13, 4, pc, dp rl 4 0⟩]) :: Y) :=
  pE W0 hb cf ps pb db qb gb a cap gbs i g hg hi4 rl pc es h hl hn hp 13 4 hw (by decide) (by decide) (by decide) _ X (· = X) call102 (fun cb lv R => EI W0 cb g i hb _ _ _ _ lv R)
    fun cb lg sp => ji (Ey W0 _ cb g i 13 _ _ _ _ hb _ cf ps pb db qb gb hi) fun v B hv => ⟨_, ⟨hv.1, X, rfl, rfl⟩, by rw [hv.2]; exact ent_refl⟩
theorem EK (W0 : World) (hb : Nat) (cf : Cfg) (ps pb db qb gb : Nat) (a : Option Addr) (cap : Nat) (gbs : List Nat) (i g : Nat) (hg : gbs[i]? = some g) (hi4 : gbs.length ≤ 4) (rl : List Nat) (pc : Nat) (es : List Evt)  (h : GC rb vb pv tr cs) (hl : rl.length = 16) (hn : es.length < 4096) (hp : pc < 1000) (X : List HP) (hc : CfK W0 cf) (hw : rl.getD 1 0 = 8) (hr : rt cf = true) (ha : rl.getD 2 0 < 4294967296) (hs : eF cf i (rl.getD 2 0) ≠ 0) :
    aC Tryz.prog W0 14 [pV hb, .slice a gbs.length cap, .int .i64 i] (pt hb (cX cf ps pb db qb gb) :: osl 50 1 (.slice a gbs.length cap) (gbs.map pV) :: pt g (bT cs) :: pt rb (bS rl pc) :: cq tr es :: X)
      (fun v B => v = .tuple #[.int .i64 (eF cf i (rl.getD 2 0) : Nat), .int .i64 0] ∧ ∃ Y, Y = X ∧ B = pt hb (cX cf ps pb db qb gb) :: osl 50 1 (.slice a gbs.length cap) (gbs.map pV) :: pt g (bT cs) :: pt rb (bS (dp rl (eF cf i (rl.getD 2 0)) 0) (pc + 4)) :: cq tr (es ++ [⟨2, 0, 8, eF cf i (rl.getD 2 0), pc, dp rl (eF cf i (rl.getD 2 0)) 0⟩]) :: Y) :=
  pE W0 hb cf ps pb db qb gb a cap gbs i g hg hi4 rl pc es h hl hn hp 8 (eF cf i (rl.getD 2 0)) hw (by decide) (by decide) (by unfold eF; split <;> (try split) <;> omega) _ X (· = X) call100 (fun cb lv R => xq W0 cb g i hb _ _ _ _ lv R)
    fun cb lg sp => ji (ED _ hc (fb hr).nn ha hs) fun v B hv => ⟨_, ⟨hv.1, X, rfl, rfl⟩, by rw [hv.2]; exact ent_refl⟩
theorem EL (W0 : World) (hb : Nat) (cf : Cfg) (ps pb db qb gb : Nat) (a : Option Addr) (cap : Nat) (gbs : List Nat) (i g : Nat) (hg : gbs[i]? = some g) (hi4 : gbs.length ≤ 4) (rl : List Nat) (pc : Nat) (es : List Evt)  (h : GC rb vb pv tr cs) (hl : rl.length = 16) (hn : es.length < 4096) (hp : pc < 1000) (X : List HP) (hc : CfK W0 cf) (hw : rl.getD 1 0 = 9) (hr : rt cf = true) (ha : rl.getD 2 0 < 4294967296) (R : List HP) (Z K : HP) (hX : (dL cf (rl.getD 2 0)).2 = i → rl.getD 2 0 < cf.nl.length → Z = bB [bG ps (List.replicate (bp cf) bE), K]) :
    aC Tryz.prog W0 14 [pV hb, .slice a gbs.length cap, .int .i64 i] (pt hb (cX cf ps pb db qb gb) :: osl 50 1 (.slice a gbs.length cap) (gbs.map pV) :: pt g (bT cs) :: pt rb (bS rl pc) :: cq tr es :: kH 5 Z :: R)
      (fun v B => v = .tuple #[.int .i64 (iy cf i (rl.getD 2 0) : Nat), .int .i64 0] ∧ ∃ Y, Y = kH 5 Z :: R ∧ B = pt hb (cX cf ps pb db qb gb) :: osl 50 1 (.slice a gbs.length cap) (gbs.map pV) :: pt g (bT cs) :: pt rb (bS (dp rl (iy cf i (rl.getD 2 0)) 0) (pc + 4)) :: cq tr (es ++ [⟨2, 0, 9, iy cf i (rl.getD 2 0), pc, dp rl (iy cf i (rl.getD 2 0)) 0⟩]) :: Y) :=
  pE W0 hb cf ps pb db qb gb a cap gbs i g hg hi4 rl pc es h hl hn hp 9 (iy cf i (rl.getD 2 0)) hw (by decide) (by decide) (by unfold iy; split <;> (try split) <;> omega) _ (kH 5 Z :: R) (· = kH 5 Z :: R) call101 (fun cb lv R => EH W0 cb g i hb _ _ _ _ lv R)
    fun cb lg sp => by
 by_cases hz : rl.getD 2 0 < cf.nl.length ∧ (dL cf (rl.getD 2 0)).2 = i
 obtain rfl := hX hz.2 hz.1
 have he : iy cf i (rl.getD 2 0) = 3 := by rw [iy, if_pos hz.1, if_pos hz.2]
 rw [he]
 refine jk (B := kH 5 (bB [bG ps (List.replicate (bp cf) bE), K]) :: pt cb (dM g i 9 (rl.getD 2 0) (rl.getD 3 0) (rl.getD 4 0) (rl.getD 5 0) hb (.slice (some ⟨lg, 0, none⟩) gbs.length cap)) :: pt hb (cX cf ps pb db qb gb) :: pt g (bT cs) :: pt lg (ax (gbs.map pV ++ sp) 50) :: pt rb (bS rl pc) :: cq tr es :: R) inferInstance ?_
 refine jk ik ?_
 refine jk (B := pt cb (dM g i 9 (rl.getD 2 0) (rl.getD 3 0) (rl.getD 4 0) (rl.getD 5 0) hb (.slice (some ⟨lg, 0, none⟩) gbs.length cap)) :: pt hb (cX cf ps pb db qb gb) :: pt g (bT cs) :: bG ps (List.replicate (bp cf) bE) :: kH 6 K :: pt lg (ax (gbs.map pV ++ sp) 50) :: pt rb (bS rl pc) :: cq tr es :: R) ?_ ?_
 refine Ent.trans (B := bG ps (List.replicate (bp cf) bE) :: kH 6 K :: pt cb (dM g i 9 (rl.getD 2 0) (rl.getD 3 0) (rl.getD 4 0) (rl.getD 5 0) hb (.slice (some ⟨lg, 0, none⟩) gbs.length cap)) :: pt hb (cX cf ps pb db qb gb) :: pt g (bT cs) :: pt lg (ax (gbs.map pV ++ sp) 50) :: pt rb (bS rl pc) :: cq tr es :: R) ent_refl inferInstance
 refine ji (EF _ hc hr hz.1 hz.2 h) fun v B hv => ⟨_, ⟨hv.1, _, rfl, rfl⟩, ?_⟩
 rw [hv.2]
 refine Ent.trans (B := bG ps (List.replicate (bp cf) bE) :: kH 6 K :: pt cb (dM g i 9 (rl.getD 2 0) (rl.getD 3 0) (rl.getD 4 0) (rl.getD 5 0) hb (.slice (some ⟨lg, 0, none⟩) gbs.length cap)) :: pt hb (cX cf ps pb db qb gb) :: pt g (bT cs) :: pt lg (ax (gbs.map pV ++ sp) 50) :: pt rb (bS rl pc) :: cq tr es :: R) inferInstance ?_
 refine (fY (A := [bG ps (List.replicate (bp cf) bE), K])).trans ?_
 exact (inferInstance : Ent (kH 5 (bB [bG ps (List.replicate (bp cf) bE), K]) :: pt cb (dM g i 9 (rl.getD 2 0) (rl.getD 3 0) (rl.getD 4 0) (rl.getD 5 0) hb (.slice (some ⟨lg, 0, none⟩) gbs.length cap)) :: pt hb (cX cf ps pb db qb gb) :: pt g (bT cs) :: pt lg (ax (gbs.map pV ++ sp) 50) :: pt rb (bS rl pc) :: cq tr es :: R) (pt cb (dM g i 9 (rl.getD 2 0) (rl.getD 3 0) (rl.getD 4 0) (rl.getD 5 0) hb (.slice (some ⟨lg, 0, none⟩) gbs.length cap)) :: pt hb (cX cf ps pb db qb gb) :: pt lg (ax (gbs.map pV ++ sp) 50) :: pt g (bT cs) :: pt rb (bS rl pc) :: cq tr es :: kH 5 (bB [bG ps (List.replicate (bp cf) bE), K]) :: R))
 exact ji (EE _ hc hr ha hz) fun v B hv => ⟨_, ⟨hv.1, _, rfl, rfl⟩, by rw [hv.2]; exact ent_refl⟩
theorem EM (W0 : World) (hb : Nat) (cf : Cfg) (ps pb db qb gb : Nat) (a : Option Addr) (cap : Nat) (gbs : List Nat) (i g : Nat) (hg : gbs[i]? = some g) (hi4 : gbs.length ≤ 4) (rl : List Nat) (pc : Nat) (es : List Evt)  (h : GC rb vb pv tr cs) (hl : rl.length = 16) (hn : es.length < 4096) (hp : pc < 1000) (X : List HP) (hc : CfK W0 cf) (hw : rl.getD 1 0 = 8) (hr : rt cf = true) (ha : rl.getD 2 0 < cf.nl.length) (hb4 : rl.getD 3 0 < 4294967296) (hx : (dL cf (rl.getD 2 0)).1 = i) {j g2 : Nat} (hj : (dL cf (rl.getD 2 0)).2 = j) (hg2 : gbs[j]? = some g2) {rb2 vb2 pv2 tr2 : Nat} {cs2 : List Value} (h' : GC rb2 vb2 pv2 tr2 cs2) {fr : List bZ} (hF : dZ fr) (hfl : fr.length = bp cf) :
    aC Tryz.prog W0 14 [pV hb, .slice a gbs.length cap, .int .i64 i] (pt hb (cX cf ps pb db qb gb) :: osl 50 1 (.slice a gbs.length cap) (gbs.map pV) :: pt g (bT cs) :: pt rb (bS rl pc) :: cq tr es :: bG ps fr :: pt g2 (bT cs2) :: pt vb2 iu :: X)
      (fun v B => v = .tuple #[.int .i64 ((0 : Nat) : Int), .int .i64 0] ∧ ∃ Y, (∃ Z, Y = kH 5 Z :: X) ∧ B = pt hb (cX cf ps pb db qb gb) :: osl 50 1 (.slice a gbs.length cap) (gbs.map pV) :: pt g (bT cs) :: pt rb (bS (dp rl 0 0) (pc + 4)) :: cq tr (es ++ [⟨2, 0, 8, 0, pc, dp rl 0 0⟩]) :: Y) :=
  pE W0 hb cf ps pb db qb gb a cap gbs i g hg hi4 rl pc es h hl hn hp 8 0 hw (by decide) (by decide) (by decide) _ (bG ps fr :: pt g2 (bT cs2) :: pt vb2 iu :: X) (fun Y => ∃ Z, Y = kH 5 Z :: X) call100 (fun cb lv R => xq W0 cb g i hb _ _ _ _ lv R)
    fun cb lg sp => by
 refine jk (B := pt cb (dM g i 8 (rl.getD 2 0) (rl.getD 3 0) (rl.getD 4 0) (rl.getD 5 0) hb (.slice (some ⟨lg, 0, none⟩) gbs.length cap)) :: pt hb (cX cf ps pb db qb gb) :: pt lg (ax (gbs.map pV ++ sp) 50) :: bG ps fr :: pt g2 (bT cs2) :: pt vb2 iu :: pt g (bT cs) :: pt rb (bS rl pc) :: cq tr es :: X) inferInstance ?_
 refine ji (EG lg sp gbs cap hc hr ha hx hj hg2 hb4 hi4 h' hF hfl) fun v B hv => ?_
 obtain ⟨hv, Y, rfl⟩ := hv
 refine ⟨_, ⟨hv, kH 5 (bB Y) :: X, ⟨_, rfl⟩, rfl⟩, ?_⟩
 refine Ent.cons (Ent.cons (Ent.cons ?_))
 refine (Ent.ofPerm (List.perm_append_comm_assoc Y [pt g (bT cs), pt rb (bS rl pc), cq tr es] X)).trans ?_
 exact Ent.cons (Ent.cons (Ent.cons (fY (A := Y) (R := X))))
theorem EN {α : Type} {L : List α} {i j : Nat} (h : j ≠ i) (hj : j < L.length) : ∃ k, ∃ hk : k < (L.eraseIdx i).length, (L.eraseIdx i)[k] = L[j] := by
 rcases Nat.lt_or_ge j i with q | q
 have e : (L.eraseIdx i)[j]? = L[j]? := by rw [List.getElem?_eraseIdx, if_pos q]
 rw [List.getElem?_eq_getElem hj] at e
 obtain ⟨k1, k2⟩ := List.getElem?_eq_some_iff.1 e
 exact ⟨j, k1, k2⟩
 have e : (L.eraseIdx i)[j - 1]? = L[j]? := by rw [List.getElem?_eraseIdx, if_neg (by omega), show j - 1 + 1 = j by omega]
 rw [List.getElem?_eq_getElem hj] at e
 obtain ⟨k1, k2⟩ := List.getElem?_eq_some_iff.1 e
 exact ⟨j - 1, k1, k2⟩
abbrev gU (gbs : List Nat) (i : Nat) : List HP := (gbs.map fun g => fj g fK).eraseIdx i
theorem EO (W0 : World) (hb : Nat) (cf : Cfg) (ps pb db qb gb : Nat) (a : Option Addr) (cap : Nat) (gbs : List Nat) (i g : Nat) (hg : gbs[i]? = some g) (hi4 : gbs.length ≤ 4) (rl : List Nat) (pc : Nat) (es : List Evt)  (h : GC rb vb pv tr cs) (hl : rl.length = 16) (hn : es.length < 4096) (hp : pc < 1000) (X : List HP) (hc : CfK W0 cf) (hw : rl.getD 1 0 = 8) (hr : rt cf = true) (ha : rl.getD 2 0 < 4294967296) (hb4 : rl.getD 3 0 < 4294967296) (hgl : gbs.length = cf.gl.length) :
    aC Tryz.prog W0 14 [pV hb, .slice a gbs.length cap, .int .i64 i] (pt hb (cX cf ps pb db qb gb) :: osl 50 1 (.slice a gbs.length cap) (gbs.map pV) :: pt g (bT cs) :: pt rb (bS rl pc) :: cq tr es :: kH 5 (bB [bG ps (List.replicate (bp cf) bE), kH 3 (bB (gU gbs i))]) :: X)
      (fun v B => v = .tuple #[.int .i64 (eF cf i (rl.getD 2 0) : Nat), .int .i64 0] ∧ ∃ Z, (eF cf i (rl.getD 2 0) ≠ 0 → Z = bB [bG ps (List.replicate (bp cf) bE), kH 3 (bB (gU gbs i))]) ∧ B = pt hb (cX cf ps pb db qb gb) :: osl 50 1 (.slice a gbs.length cap) (gbs.map pV) :: pt g (bT cs) :: pt rb (bS (dp rl (eF cf i (rl.getD 2 0)) 0) (pc + 4)) :: cq tr (es ++ [⟨2, 0, 8, eF cf i (rl.getD 2 0), pc, dp rl (eF cf i (rl.getD 2 0)) 0⟩]) :: kH 5 Z :: X) := by
 by_cases hs : eF cf i (rl.getD 2 0) = 0
 rw [hs]
 have hl' : rl.getD 2 0 < cf.nl.length := by
  rcases Nat.lt_or_ge (rl.getD 2 0) cf.nl.length with q | q
  exact q
  rw [eF, if_neg (by omega)] at hs; cases hs
 have hx : (dL cf (rl.getD 2 0)).1 = i := by
  rw [eF, if_pos hl'] at hs
  by_cases q : (dL cf (rl.getD 2 0)).1 = i
  exact q
  rw [if_neg q] at hs; cases hs
 have hri : gq cf (dL cf (rl.getD 2 0)) = false := by
  obtain ⟨_, _, _, _, _, k, _⟩ := jW hr
  simp only [f3, Bool.or_eq_false_iff] at k
  exact lO k.2 hl'
 simp only [gq, Bool.not_eq_false', Bool.and_eq_true, decide_eq_true_eq] at hri
 obtain ⟨⟨⟨_, h2⟩, h3⟩, _⟩ := hri
 simp only [e8, decide_eq_true_eq] at h2
 obtain ⟨j, hj⟩ : ∃ j : Nat, (dL cf (rl.getD 2 0)).2 = j := ⟨(dL cf (rl.getD 2 0)).2.toNat, by omega⟩
 have hjl : j < gbs.length := by omega
 have hji : j ≠ i := by omega
 obtain ⟨k, hk, he⟩ := EN (L := gbs.map fun g => fj g fK) hji (by rw [List.length_map]; exact hjl)
 rw [List.getElem_map] at he
 refine jk (B := kH 5 (bB [bG ps (List.replicate (bp cf) bE), kH 3 (bB (gU gbs i))]) :: pt hb (cX cf ps pb db qb gb) :: osl 50 1 (.slice a gbs.length cap) (gbs.map pV) :: pt g (bT cs) :: pt rb (bS rl pc) :: cq tr es :: X) inferInstance ?_
 refine jk (ik (A := [bG ps (List.replicate (bp cf) bE), kH 3 (bB (gU gbs i))])) ?_
 have e2 := rm (L := gU gbs i) (R := pt hb (cX cf ps pb db qb gb) :: osl 50 1 (.slice a gbs.length cap) (gbs.map pV) :: pt g (bT cs) :: pt rb (bS rl pc) :: cq tr es :: X) hk
 rw [he] at e2
 refine jk (B := fj gbs[j] fK :: bG ps (List.replicate (bp cf) bE) :: kH 3 (bB ((gU gbs i).eraseIdx k)) :: pt hb (cX cf ps pb db qb gb) :: osl 50 1 (.slice a gbs.length cap) (gbs.map pV) :: pt g (bT cs) :: pt rb (bS rl pc) :: cq tr es :: X) ?_ ?_
 exact (Ent.cons e2).trans (Ent.ofPerm (List.Perm.swap _ _ _))
 refine mG fun C hC => ?_
 obtain ⟨cs2, rb2, vb2, pv2, tr2, o, hG2, _, ho, rfl⟩ := hC
 obtain rfl := ho rfl
 refine jk (B := pt hb (cX cf ps pb db qb gb) :: osl 50 1 (.slice a gbs.length cap) (gbs.map pV) :: pt g (bT cs) :: pt rb (bS rl pc) :: cq tr es :: bG ps (List.replicate (bp cf) bE) :: pt gbs[j] (bT cs2) :: pt vb2 iu :: X) ?_ ?_
 simp only [List.cons_append, List.nil_append]
 refine Ent.trans (B := pt hb (cX cf ps pb db qb gb) :: bG ps (List.replicate (bp cf) bE) :: pt gbs[j] (bT cs2) :: pt vb2 iu :: osl 50 1 (.slice a gbs.length cap) (gbs.map pV) :: pt g (bT cs) :: pt rb (bS rl pc) :: cq tr es :: X) inferInstance ?_
 exact Ent.cons (Ent.ofPerm (List.perm_append_comm_assoc [_, _, _] [_, _, _, _] X))
 refine ji (EM W0 hb cf ps pb db qb gb a cap gbs i g hg hi4 rl pc es h hl hn hp X hc hw hr hl' hb4 hx hj (List.getElem?_eq_getElem hjl) hG2 (dZ.new _) (by simp)) fun v B hv => ?_
 obtain ⟨hv, Y, ⟨Z, rfl⟩, rfl⟩ := hv
 exact ⟨_, ⟨hv, Z, fun q => absurd rfl q, rfl⟩, ent_refl⟩
 refine ji (EK W0 hb cf ps pb db qb gb a cap gbs i g hg hi4 rl pc es h hl hn hp _ hc hw hr ha hs) fun v B hv => ?_
 obtain ⟨hv, Y, rfl, rfl⟩ := hv
 exact ⟨_, ⟨hv, _, fun _ => rfl, rfl⟩, ent_refl⟩
end
end
def Zo (o : Obj) (p : Option Addr) (A : List HP) : Prop := p = none ∨ ∃ b, p = some ⟨b, 0, none⟩ ∧ Ent A [pt b o]
theorem Zo.cons {o : Obj} {p : Option Addr} {A : List HP} {c : HP} (h : Zo o p A) : Zo o p (c :: A) := by
 rcases h with h | ⟨b, h1, h2⟩
 exact .inl h
 exact .inr ⟨b, h1, Ent.drop.trans h2⟩
abbrev xt (c : Cfg) (hb ps pb db qb gb : Nat) (a : Option Addr) (cap g0 g1 : Nat) (R : List HP) : List HP := pt hb (ax (fc c ps pb db qb gb) 68) :: osl 50 1 (.slice a [g0, g1].length cap) ([g0, g1].map pV) :: fj g0 fK :: fj g1 fK :: R
theorem EP (W0 : World) (b1 b2 b3 b4 b5 : Nat) (R : List HP) :
    aC Tryz.prog W0 12 [.agg (bU (ix b1 b2 b3 b4 b5)).toArray, .slice none 0 0, .slice none 0 0] (sP b1 b2 b3 b4 b5 R)
      (fun v B => ∃ hb ps pb db qb gb wb a cap a2 n2 cap2 g0 g1, v = .tuple #[pV hb, .slice a [g0, g1].length cap, pV wb, .slice a2 n2 cap2, .bool true] ∧ B = xt (ix b1 b2 b3 b4 b5) hb ps pb db qb gb a cap g0 g1 R) := by
 refine fun w hO => (Ba (fun W hW => xf W [] (ix b1 b2 b3 b4 b5) (Ew hW) (Eu b1 b2 b3 b4 b5)) w hO).mono ?_
 rintro e w' ⟨v, B, rfl, ⟨C, ⟨hb, ps, pb, db, qb, gb, wb, a, cap, a2, n2, cap2, gbs, hl, rfl, rfl⟩, rfl⟩, hO'⟩
 obtain ⟨g0, g1, rfl⟩ : ∃ g0 g1, gbs = [g0, g1] := by
  match gbs, hl with
  | [x, y], _ => exact ⟨x, y, rfl⟩
 refine ⟨_, _, rfl, ⟨hb, ps, pb, db, qb, gb, wb, a, cap, a2, n2, cap2, g0, g1, rfl, rfl⟩, hO'.ent ?_⟩
 refine Ent.trans (B := kH 2 (bB ([g0, g1].map fun g => fj g fK)) :: pt hb (ax (fc (ix b1 b2 b3 b4 b5) ps pb db qb gb) 68) :: osl 50 1 (.slice a [g0, g1].length cap) ([g0, g1].map pV) :: R) ?_ ?_
 simp only [List.cons_append, List.nil_append]
 exact inferInstance
 refine Ent.trans (ik (A := [fj g0 fK, fj g1 fK])) ?_
 exact (inferInstance : Ent (fj g0 fK :: fj g1 fK :: pt hb (ax (fc (ix b1 b2 b3 b4 b5) ps pb db qb gb) 68) :: osl 50 1 (.slice a [g0, g1].length cap) ([g0, g1].map pV) :: R) (xt (ix b1 b2 b3 b4 b5) hb ps pb db qb gb a cap g0 g1 R))
theorem EQ : dT (List.replicate 16 0) 0 [0, 0, 0, 0] 4 = List.replicate 16 0 := by decide
theorem ny : aC Tryz.prog W0 11 [] R (fun v B => v = .bool true ∧ B = R) := by
 refine aG func11 ntmps11 rfl rfl ?_
 refine ae (ah (aa rfl (ai rfl) (ag (ab (ae (ah (am rfl (aU call18 rfl (Ev)) ?_)))))))
 rintro _ B_ ⟨b1, b2, b3, b4, b5, rfl, hB_⟩
 obtain rfl := hB_.symm
 refine am rfl (aU yC rfl (EP W0 b1 b2 b3 b4 b5 _)) ?_
 rintro _ B_ ⟨hb, ps, pb, db, qb, gb, wb, a, cap, a2, n2, cap2, g0, g1, rfl, hB_⟩
 obtain rfl := hB_.symm
 refine aa rfl (ac rfl) (aa rfl (aS rfl rfl) (aa rfl (aS rfl rfl) (aa rfl (aS rfl rfl) (aa rfl (aS rfl rfl) (aa rfl (aS rfl rfl) (aa rfl (ai rfl) (aa rfl (ai rfl) (aa rfl (ai rfl) (aa rfl (ai rfl) (aa rfl (ai rfl) (ag (ab (ae (ae (ah (aa rfl (ac rfl) (aa rfl (bM rfl) (aa rfl (ac rfl) ?_))))))))))))))))))
 refine bC rfl rfl rfl ?_ ?_
 intro g2_3
 exact absurd g2_3 (by decide)
 intro g2_3
 refine aa rfl (ac rfl) (ar rfl rfl (aa rfl (dv nU rfl rfl) (aa rfl (aM rfl rfl) (aa rfl (ac rfl) ?_))))
 refine bC rfl rfl rfl ?_ ?_
 intro g2_7
 first | exact absurd g2_7 (by decide) | (cases g2_7)
 intro g2_7
 refine aa rfl (ac rfl) (ar rfl rfl (aa rfl (bu fC rfl) (ar rfl rfl (aa rfl (bI rfl rfl) (aa rfl (aM rfl rfl) (ag (ab ?_)))))))
 refine aw rfl ?_ ?_
 intro c2
 first | exact absurd c2 (by decide) | (simp at c2)
 intro c2
 refine aB (ab (ae ?_))
 refine xe (gb := g1) fun cs rb vb pv tr o hG hrl _ => ?_
 refine f9 (B := pt g1 (bT cs) :: pt rb (bS (List.replicate 16 0) 0) :: cq tr [] :: pt hb (ax (fc (ix b1 b2 b3 b4 b5) ps pb db qb gb) 68) :: osl 50 1 (.slice a [g0, g1].length cap) ([g0, g1].map pV) :: R) (Ent.cons (Ent.cons (Ent.cons inferInstance))) ?_
 refine ed (r := osl 50 1) (b := .slice a [g0, g1].length cap) (gN (fun h1 h2 => by cases h2) fun lg nn c2 sp h1 h2 h3 h4 h5 => ?_)
 cases h1
 refine ah (aa rfl (ac rfl) ?_)
 refine aa rfl (ce fC fD rfl rfl (i := 1) rfl (show 1 < 2 by decide) (by first | exact Nat.zero_add _ | rfl)) ?_
 refine aa rfl (ao gL rfl (aA rfl)) ?_
 refine aa rfl (mY ij cQ mj rfl) ?_
 refine am rfl (eX tE rfl (pD W0 _ g1 (List.replicate 16 0) 0 0 [0, 0, 0, 0] rfl hG rfl)) ?_
 rintro _ B_ ⟨rfl, hB_⟩
 obtain rfl := hB_.symm
 rw [EQ]
 refine ag (ab (ae ?_))
 refine f9 (B := osl 50 1 (.slice (some ⟨lg, 0, none⟩) [g0, g1].length cap) ([g0, g1].map pV) :: pt hb (ax (fc (ix b1 b2 b3 b4 b5) ps pb db qb gb) 68) :: pt g1 (bT cs) :: pt rb (bS (List.replicate 16 0) 0) :: cq tr [] :: R) ?_ ?_
 refine Ent.trans (B := pt lg (ax ([g0, g1].map pV ++ sp) 50) :: pt hb (ax (fc (ix b1 b2 b3 b4 b5) ps pb db qb gb) 68) :: pt g1 (bT cs) :: pt rb (bS (List.replicate 16 0) 0) :: cq tr [] :: R) inferInstance ?_
 exact fa h2 h3 rfl h5
 refine ah (aa rfl (ac rfl) (aa rfl (ac rfl) ?_))
 refine am rfl (qT tF rfl (Et W0 _ hb (ix b1 b2 b3 b4 b5) ps pb db qb gb (some ⟨lg, 0, none⟩) cap [g0, g1] 1 g1 rfl (show 2 ≤ 4 by decide) (List.replicate 16 0) 0 [] hG rfl (by decide) (by decide) rfl)) ?_
 rintro _ B_ ⟨rfl, hB_⟩
 obtain rfl := hB_.symm
 refine aa rfl (ac rfl) (aa rfl (aS rfl rfl) (aa rfl (aS rfl rfl) (aa rfl (ai rfl) (aa rfl (ai rfl) (ag (ab (ae ?_)))))))
 refine ed (r := osl 50 1) (b := .slice (some ⟨lg, 0, none⟩) [g0, g1].length cap) (gN (fun h1 h2 => by cases h2) fun lg nn c2 sp h1 h2 h3 h4 h5 => ?_)
 cases h1
 refine ah (aa rfl (ac rfl) (aa rfl (cu rfl rfl) (aa rfl (ac rfl) ?_)))
 refine cJ rfl rfl rfl ?_ ?_
 intro g6_3
 refine aa rfl (ac rfl) (ar rfl rfl (aa rfl (cu rfl rfl) (aa rfl (aY rfl rfl) (aa rfl (ac rfl) ?_))))
 refine cJ rfl rfl rfl ?_ ?_
 intro g6_7
 refine aa rfl (ac rfl) (ar rfl rfl ?_)
 refine aa rfl (ce fC fD rfl rfl (i := 1) rfl (show 1 < 2 by decide) (by first | exact Nat.zero_add _ | rfl)) ?_
 refine ar rfl rfl (aa rfl (ao gL rfl (aA rfl)) ?_)
 refine ar rfl rfl (am rfl (eX yw rfl (sJ g1 (dp (List.replicate 16 0) 0 1) 4 hG rfl)) ?_)
 rintro _ B_ ⟨rfl, hB_⟩
 obtain rfl := hB_.symm
 refine ar rfl rfl ?_
 refine aa rfl (uT nP cQ fm rfl rfl rfl (by decide) rfl) ?_
 refine ar rfl rfl (aa rfl (cu rfl rfl) (aa rfl (aY rfl rfl) (aa rfl (ac rfl) ?_)))
 refine cJ rfl rfl rfl ?_ ?_
 intro g6_15
 refine aa rfl (ac rfl) (ar rfl rfl ?_)
 refine aa rfl (ce fC fD rfl rfl (i := 1) rfl (show 1 < 2 by decide) (by first | exact Nat.zero_add _ | rfl)) ?_
 refine ar rfl rfl (aa rfl (ao gL rfl (aA rfl)) ?_)
 refine ar rfl rfl (am rfl (bn call30 rfl (DZ g1 hG)) ?_)
 rintro _ B_ ⟨rfl, hB_⟩
 obtain rfl := hB_.symm
 refine ar rfl rfl (am rfl (bn call31 rfl (CW tr _)) ?_)
 rintro _ B_ ⟨rfl, hB_⟩
 obtain rfl := hB_.symm
 refine ar rfl rfl (aa rfl (cu rfl rfl) (aa rfl (aY rfl rfl) (aa rfl (ai rfl) (ag (ab (av (au (.inl rfl) (.cons (ak rfl) .nil) ?_)))))))
 exact ⟨_, ⟨rfl, rfl⟩, inferInstance⟩
 intro g6_15
 exact absurd (by decide) g6_15
 intro g6_7
 exact absurd (by decide) g6_7
 intro g6_3
 exact absurd (by decide) g6_3
theorem ER {l : List Nat} : l.map pV = l.flatMap fun g => [pV g] := by
 induction l with
 | nil => rfl
 | cons x t ih => rw [List.map_cons, List.flatMap_cons, ih]; rfl
theorem xu {rl : List Nat} {n x0 x1 x2 x3 : Nat} (h : rl.length = 16) : (dT rl n [x0, x1, x2, x3] 4).getD 1 0 = n ∧ (dT rl n [x0, x1, x2, x3] 4).getD 2 0 = x0 ∧ (dT rl n [x0, x1, x2, x3] 4).getD 3 0 = x1 := by
 obtain ⟨a0, a1, a2, a3, a4, a5, a6, a7, a8, a9, a10, a11, a12, a13, a14, a15, rfl⟩ := xi h
 exact ⟨rfl, rfl, rfl⟩
theorem ES {c : Cfg} (hr : rt c = true) {r : Nat} (hl : r < c.nl.length) : (dL c r).1 ≠ (dL c r).2 := by
 obtain ⟨_, _, _, _, _, k, _⟩ := jW hr
 simp only [f3, Bool.or_eq_false_iff] at k
 have hri : gq c (dL c r) = false := lO k.2 hl
 simp only [gq, Bool.not_eq_false', Bool.and_eq_true, decide_eq_true_eq] at hri
 exact hri.1.2
theorem ET {c : Cfg} (hr : rt c = true) {r k : Nat} (hl : r < c.nl.length) (hx : (dL c r).2 = k) : eF c k r ≠ 0 := by
 have := ES hr hl
 rw [eF, if_pos hl, if_neg (by omega)]; decide
theorem EU {W0 : World} {N : FSz} {K : Act → World → Prop} {e : bQ} {A R : List HP} {E sz n c : Nat} {a : Option Addr} {ys : List Value} {α : Type} [h : Tk (osl E sz) (.slice a n c) A ys R] (f : α → List Value) (xs : List α) (hf : ∀ x, (f x).length = sz) (hz : 0 < sz) (hy : ys = xs.flatMap f)
    (k : cF (bK W0 [osl E sz (.slice a n c) ys]) a sz f xs → aT W0 N K e A) : aT W0 N K e A := fun b w hF hO =>
  k (uL (E := E) (n := n) (c := c) (A := [osl E sz (.slice a n c) ys]) (R := []) hf hz hy (hO.ent ((Ent.ofPerm h.perm).trans (Ent.cons inferInstance)))) b w hF hO
theorem xv (c : Cfg) : aC Tryz.prog W0 10 [.agg (bU c).toArray] R (fun v B => (∃ b, v = .bool b) ∧ B = R) := by
 refine aG func10 ntmps10 rfl rfl ?_
 refine ae (ah (am rfl (bJ rfl) ?_))
 rintro _ _ ⟨b1, rfl, rfl⟩
 refine aa rfl (ai rfl) (ag (ab (ae (ah ?_))))
 refine aa rfl (al rfl bw rfl dD rfl (by first | exact Nat.zero_add _ | rfl)) ?_
 refine aa rfl (ao dN rfl (aA rfl)) ?_
 refine aa rfl (bu dq rfl) (aa rfl (iH rfl rfl) (aa rfl (ac rfl) ?_))
 refine cJ rfl rfl rfl ?_ ?_
 intro g1_5
 refine aa rfl (al rfl bw rfl iU rfl (by first | exact Nat.zero_add _ | rfl)) ?_
 refine ar rfl rfl (aa rfl (ao ki rfl (aA rfl)) ?_)
 refine ar rfl rfl (aa rfl (bu gi rfl) (ar rfl rfl (aa rfl (iH rfl rfl) (aa rfl (aY rfl rfl) (aa rfl (ac rfl) ?_)))))
 refine cJ rfl rfl rfl ?_ ?_
 intro g1_11
 refine aa rfl (al rfl bw rfl fX rfl (by first | exact Nat.zero_add _ | rfl)) ?_
 refine ar rfl rfl (aa rfl (ao iC rfl (aA rfl)) ?_)
 refine ar rfl rfl (aa rfl (bu f8 rfl) (ar rfl rfl (aa rfl (iH rfl rfl) (aa rfl (aY rfl rfl) (aa rfl (ac rfl) ?_)))))
 refine cJ rfl rfl rfl ?_ ?_
 intro g1_17
 refine aa rfl (al rfl bw rfl eV rfl (by first | exact Nat.zero_add _ | rfl)) ?_
 refine ar rfl rfl (aa rfl (ao ff rfl (aA rfl)) ?_)
 refine ar rfl rfl (aa rfl (bu eI rfl) (ar rfl rfl (aa rfl (iH rfl rfl) (aa rfl (aY rfl rfl) (aa rfl (ac rfl) ?_)))))
 refine cJ rfl rfl rfl ?_ ?_
 intro g1_23
 refine aa rfl (al rfl bw rfl jr rfl (by first | exact Nat.zero_add _ | rfl)) ?_
 refine ar rfl rfl (aa rfl (ao kh rfl (aA rfl)) ?_)
 refine ar rfl rfl (aa rfl (bu js rfl) (ar rfl rfl (aa rfl (iH rfl rfl) (aa rfl (aY rfl rfl) (aa rfl (ai rfl) (ag (ab (av (au (.inl rfl) (.cons (ak rfl) .nil) ?_)))))))))
 exact ⟨_, ⟨⟨_, rfl⟩, rfl⟩, inferInstance⟩
 intro g1_23
 refine ap rfl rfl rfl rfl (ap rfl rfl rfl rfl (ap rfl rfl rfl rfl (aa rfl (aM rfl rfl) (aa rfl (ai rfl) (ag (ab (av (au (.inl rfl) (.cons (ak rfl) .nil) ?_))))))))
 exact ⟨_, ⟨⟨_, rfl⟩, rfl⟩, inferInstance⟩
 intro g1_17
 refine ap rfl rfl rfl rfl (ap rfl rfl rfl rfl (ap rfl rfl rfl rfl (aa rfl (aM rfl rfl) (aa rfl (ac rfl) (ap rfl rfl rfl rfl (ap rfl rfl rfl rfl (ap rfl rfl rfl rfl (ap rfl rfl rfl rfl (aa rfl (aM rfl rfl) (aa rfl (ai rfl) (ag (ab (av (au (.inl rfl) (.cons (ak rfl) .nil) ?_))))))))))))))
 exact ⟨_, ⟨⟨_, rfl⟩, rfl⟩, inferInstance⟩
 intro g1_11
 refine ap rfl rfl rfl rfl (ap rfl rfl rfl rfl (ap rfl rfl rfl rfl (aa rfl (aM rfl rfl) (aa rfl (ac rfl) (ap rfl rfl rfl rfl (ap rfl rfl rfl rfl (ap rfl rfl rfl rfl (ap rfl rfl rfl rfl (aa rfl (aM rfl rfl) (aa rfl (ac rfl) (ap rfl rfl rfl rfl (ap rfl rfl rfl rfl (ap rfl rfl rfl rfl (ap rfl rfl rfl rfl (aa rfl (aM rfl rfl) (aa rfl (ai rfl) (ag (ab (av (au (.inl rfl) (.cons (ak rfl) .nil) ?_))))))))))))))))))))
 exact ⟨_, ⟨⟨_, rfl⟩, rfl⟩, inferInstance⟩
 intro g1_5
 refine ap rfl rfl rfl rfl (ap rfl rfl rfl rfl (ap rfl rfl rfl rfl (aa rfl (aM rfl rfl) (aa rfl (ac rfl) (ap rfl rfl rfl rfl (ap rfl rfl rfl rfl (ap rfl rfl rfl rfl (ap rfl rfl rfl rfl (aa rfl (aM rfl rfl) (aa rfl (ac rfl) (ap rfl rfl rfl rfl (ap rfl rfl rfl rfl (ap rfl rfl rfl rfl (ap rfl rfl rfl rfl (aa rfl (aM rfl rfl) (aa rfl (ac rfl) (ap rfl rfl rfl rfl (ap rfl rfl rfl rfl (ap rfl rfl rfl rfl (ap rfl rfl rfl rfl (aa rfl (aM rfl rfl) (aa rfl (ai rfl) (ag ?_)))))))))))))))))))))))
 refine ab (av (au (.inl rfl) (.cons (ak rfl) .nil) ?_))
 exact ⟨_, ⟨⟨_, rfl⟩, rfl⟩, inferInstance⟩
theorem EV (W0 : World) (c : Cfg) (h : CfK W0 c) (hr : rt c = false) (i ring x0 x1 x2 x3 : Nat) :
    aC Tryz.prog W0 4 [.agg (bU c).toArray, .int .u8 i, .int .u8 ring, .agg #[wV x0, wV x1, wV x2, wV x3]] [] (fun v B => v = .bool true ∧ B = []) := by
 refine aG tG ntmps4 rfl rfl ?_
 refine ae (ah (am rfl (bJ rfl) ?_))
 rintro _ _ ⟨b1, rfl, rfl⟩
 refine am rfl (bJ rfl) ?_
 rintro _ _ ⟨b2, rfl, rfl⟩
 refine aa rfl (ai rfl) (ag (ab (ae (ah (aa rfl (cp ks ec rfl rfl) ?_)))))
 refine am rfl (cM mj) ?_
 rintro _ _ ⟨b3, rfl, rfl⟩
 refine bD (cD ec rfl rfl rfl rfl rfl) ?_
 rintro _ _ rfl
 refine ag (ab (ae (ae (ah (aa rfl (cp cn bN rfl rfl) ?_)))))
 refine am rfl (aU call10 rfl (xv c)) ?_
 rintro _ B_ ⟨⟨s, rfl⟩, hB_⟩
 obtain rfl := hB_.symm
 refine aa rfl (bM rfl) (ag (ab ?_))
 refine aw rfl ?_ ?_
 intro c2
 refine ae (ah (am rfl (aU q9 rfl (ny)) ?_))
 rintro _ B_ ⟨rfl, hB_⟩
 obtain rfl := hB_.symm
 refine aa rfl (ai rfl) (ag (ab (av (aE (au (.inl rfl) (.cons (ak rfl) .nil) ?_)))))
 exact ⟨_, ⟨rfl, rfl⟩, inferInstance⟩
 intro c2
 refine aB (ab (ae (ah (aa rfl (cp cn bN rfl rfl) ?_))))
 refine am rfl (aU yC rfl (DY W0 _ c h hr)) ?_
 rintro _ B_ ⟨rfl, hB_⟩
 obtain rfl := hB_.symm
 refine aa rfl (ac rfl) (aa rfl (aS rfl rfl) (aa rfl (aS rfl rfl) (aa rfl (aS rfl rfl) (aa rfl (aS rfl rfl) (aa rfl (aS rfl rfl) (aa rfl (ai rfl) (aa rfl (ai rfl) (aa rfl (ai rfl) (aa rfl (ai rfl) (aa rfl (ai rfl) (ag (ab (ae (ae (ah (aa rfl (ac rfl) (aa rfl (bM rfl) (ag (ab ?_)))))))))))))))))))
 refine aw rfl ?_ ?_
 intro c5
 exact absurd rfl c5
 intro c5
 refine aB (ab (ae (ae (ah (aa rfl (ac rfl) (aa rfl (dv nU rfl rfl) (aa rfl (ac rfl) ?_)))))))
 refine bC rfl rfl rfl ?_ ?_
 intro g7_3
 refine ap rfl rfl rfl rfl (ap rfl rfl rfl rfl (aa rfl (aY rfl rfl) (ag (ab (cg rfl (ae (ah (am rfl (aU q9 rfl (ny)) ?_))))))))
 rintro _ B_ ⟨rfl, hB_⟩
 obtain rfl := hB_.symm
 refine aa rfl (ai rfl) (ag (ab (av (aE (au (.inl rfl) (.cons (ak rfl) .nil) ?_)))))
 exact ⟨_, ⟨rfl, rfl⟩, inferInstance⟩
 intro g7_3
 exact absurd rfl g7_3
theorem EW (W0 : World) (c : Cfg) (h : CfK W0 c) (hr : rt c = true) (i ring x0 x1 x2 x3 : Nat) (hi : i < 256) (h1 : x1 < 4294967296) (hring : ring < 256) :
    aC Tryz.prog W0 4 [.agg (bU c).toArray, .int .u8 i, .int .u8 ring, .agg #[wV x0, wV x1, wV x2, wV x3]] [] (fun v B => v = .bool true ∧ B = []) := by
 have hR := fb hr
 have hg4 := hR.g4
 have hg1 := hR.g1
 obtain ⟨r, hrr⟩ : ∃ r, ring % 4 = r := ⟨_, rfl⟩
 have hr4 : r < 4 := by omega
 refine aG tG ntmps4 rfl rfl ?_
 refine ae (ah (am rfl (bJ rfl) ?_))
 rintro _ _ ⟨b4, rfl, rfl⟩
 refine am rfl (bJ rfl) ?_
 rintro _ _ ⟨b7, rfl, rfl⟩
 refine aa rfl (ai rfl) (ag (ab (ae (ah (aa rfl (cp ks ec rfl rfl) ?_)))))
 refine am rfl (cM mj) ?_
 rintro _ _ ⟨b9, rfl, rfl⟩
 refine bD (cD ec rfl rfl rfl rfl rfl) ?_
 rintro _ _ rfl
 refine ag (ab (ae (ae (ah (aa rfl (cp cn bN rfl rfl) ?_)))))
 refine am rfl (aU call10 rfl (xv c)) ?_
 rintro _ B_ ⟨⟨s, rfl⟩, hB_⟩
 obtain rfl := hB_.symm
 refine aa rfl (bM rfl) (ag (ab ?_))
 refine aw rfl ?_ ?_
 intro c2
 refine ae (ah (am rfl (aU q9 rfl (ny)) ?_))
 rintro _ B_ ⟨rfl, hB_⟩
 obtain rfl := hB_.symm
 refine aa rfl (ai rfl) (ag (ab (av (aE (au (.inl rfl) (.cons (ak rfl) .nil) ?_)))))
 exact ⟨_, ⟨rfl, rfl⟩, inferInstance⟩
 intro c2
 refine aB (ab (ae (ah (aa rfl (cp cn bN rfl rfl) ?_))))
 refine am rfl (aU yC rfl (xf W0 _ c h hr)) ?_
 rintro _ B_ ⟨hb, ps, pb, db, qb, gb, wb, a, cap, a2, n2, cap2, gbs, hgl, rfl, hB_⟩
 obtain rfl := hB_.symm
 refine aa rfl (ac rfl) (aa rfl (aS rfl rfl) (aa rfl (aS rfl rfl) (aa rfl (aS rfl rfl) (aa rfl (aS rfl rfl) (aa rfl (aS rfl rfl) (aa rfl (ai rfl) (aa rfl (ai rfl) (aa rfl (ai rfl) (aa rfl (ai rfl) (aa rfl (ai rfl) (ag (ab (ae (ae (ah (aa rfl (ac rfl) (aa rfl (bM rfl) (ag (ab ?_)))))))))))))))))))
 refine aw rfl ?_ ?_
 intro c5
 exact absurd c5 (by decide)
 intro c5
 refine aB (ab (ae (ae (ah (aa rfl (ac rfl) (aa rfl (dv nU rfl rfl) (aa rfl (ac rfl) ?_)))))))
 refine bC rfl rfl rfl ?_ ?_
 intro g7_3
 first | exact absurd g7_3 (by decide) | (cases g7_3)
 intro g7_3
 refine aa rfl (ac rfl) (ar rfl rfl (aa rfl (bu fC rfl) (ar rfl rfl (aa rfl (cu rfl rfl) (aa rfl (aM rfl rfl) (ag (ab ?_)))))))
 refine aw rfl ?_ ?_
 intro c7
 first | (simp at c7; omega) | omega
 intro c7
 refine aB (ab (ae ?_))
 obtain ⟨k, hk⟩ : ∃ k, i % gbs.length = k := ⟨_, rfl⟩
 have hkl : k < gbs.length := by rw [← hk]; exact Nat.mod_lt _ (by omega)
 obtain ⟨g, hg⟩ : ∃ g, gbs[k]? = some g := ⟨_, List.getElem?_eq_getElem hkl⟩
 have hgk : gbs[k] = g := (List.getElem?_eq_some_iff.1 hg).2
 refine EU (a := a) (n := gbs.length) (c := cap) (E := 50) (fun g => [pV g]) gbs (fun _ => rfl) (by decide) ER fun hs => ?_
 obtain ⟨lg, lo, hla, hcl⟩ := hs.at_ hkl
 rw [hgk] at hcl
 refine f9 (B := kH 2 (bB (gbs.map fun g => fj g fK)) :: pt hb (cX c ps pb db qb gb) :: pt gb (ia c.cats c.gate c.quota) :: bG ps (List.replicate (bp c) bE) :: osl 50 1 (.slice a gbs.length cap) (gbs.map pV) :: pt b4 (ax (bU c) 29) :: pt b9 (ax [wV x0, wV x1, wV x2, wV x3] 43) :: []) inferInstance ?_
 refine f9 (rm (i := k) (by rw [List.length_map]; exact hkl)) ?_
 rw [List.getElem_map, hgk]
 refine xe (gb := g) fun cs rb vb pv tr o hG hrl _ => ?_
 refine f9 (B := pt hb (cX c ps pb db qb gb) :: osl 50 1 (.slice a gbs.length cap) (gbs.map pV) :: pt g (bT cs) :: pt rb (bS (List.replicate 16 0) 0) :: cq tr [] :: bG ps (List.replicate (bp c) bE) :: kH 3 (bB (gU gbs k)) :: pt gb (ia c.cats c.gate c.quota) :: pt b4 (ax (bU c) 29) :: pt b9 (ax [wV x0, wV x1, wV x2, wV x3] 43) :: []) ?_ ?_
 refine Ent.trans (B := pt g (bT cs) :: pt rb (bS (List.replicate 16 0) 0) :: cq tr [] :: pt vb o :: kH 3 (bB (gU gbs k)) :: pt hb (cX c ps pb db qb gb) :: pt gb (ia c.cats c.gate c.quota) :: bG ps (List.replicate (bp c) bE) :: osl 50 1 (.slice a gbs.length cap) (gbs.map pV) :: pt b4 (ax (bU c) 29) :: pt b9 (ax [wV x0, wV x1, wV x2, wV x3] 43) :: []) ent_refl inferInstance
 refine ah (aa rfl (ac rfl) ?_)
 refine aa rfl (gC nz eb rfl (aZ (by omega))) ?_
 refine aa rfl (ac rfl) (aa rfl (bu fC rfl) ?_)
 refine aa rfl (qj rfl rfl (by omega) (by rw [Int.tmod_eq_emod_of_nonneg (by omega), ← Int.natCast_emod, hk] : Int.tmod (i : Int) (gbs.length : Int) = ((k : Nat) : Int))) ?_
 refine aa rfl (ai rfl) (ag (ab ?_))
 refine gM (fun X : List Nat × Nat × List Evt => X.1.length = 16 ∧ X.2.1 ≤ 4 ∧ X.2.2.length ≤ 1) (fun X => [(2, .int .u8 ring), (4, .pointer (some ⟨b4, 0, none⟩)), (9, .pointer (some ⟨b9, 0, none⟩)), (10, pV hb), (11, .slice a gbs.length cap), (15, .int .i64 k)]) (fun X => pt hb (cX c ps pb db qb gb) :: osl 50 1 (.slice a gbs.length cap) (gbs.map pV) :: pt g (bT cs) :: pt rb (bS X.1 X.2.1) :: cq tr X.2.2 :: bG ps (List.replicate (bp c) bE) :: kH 3 (bB (gU gbs k)) :: pt b4 (ax (bU c) 29) :: pt b9 (ax [wV x0, wV x1, wV x2, wV x3] 43) :: []) ?_ ?_
 skip
 refine ae (ah (aa rfl (ac rfl) ?_))
 refine aa rfl (al rfl bw rfl az rfl (by first | exact Nat.zero_add _ | rfl)) ?_
 refine aa rfl (ao aQ rfl (aA rfl)) ?_
 refine aa rfl (bI rfl rfl) (ag (ab ?_))
 refine aw rfl ?_ ?_
 intro c10
 refine ae ?_
 refine cA [(lg, lo + k * 1, [pV g]), (b9, 0, _)] 6 cz rfl (cW hcl.weak (aK aJ)) (fun hS => ?_)
 refine aj 0 rfl rfl (by kernel_rfl) (by kernel_rfl) (by kernel_rfl) rfl hS (ac rfl) ?_
 refine aj 1 rfl rfl (by kernel_rfl) (by kernel_rfl) (by kernel_rfl) rfl hS (ac rfl) ?_
 refine aj 2 rfl rfl (by kernel_rfl) (by kernel_rfl) (by kernel_rfl) rfl hS (dH fC fD rfl hla rfl rfl hkl (by first | exact Nat.zero_add _ | rfl)) ?_
 refine aj 3 rfl rfl (by kernel_rfl) (by kernel_rfl) (by kernel_rfl) rfl hS (ao gL rfl (my (k := 0) rfl)) ?_
 refine aj 4 rfl rfl (by kernel_rfl) (by kernel_rfl) (by kernel_rfl) rfl hS (cV ks ec rfl (dm (k := 1) rfl) rfl) ?_
 refine bA 5 (by kernel_rfl) rfl rfl (eX tE rfl (pD W0 _ g (List.replicate 16 0) 0 13 [x0, x1, x2, x3] rfl hG rfl)) rfl ?_; clear hS
 rintro _ B_ ⟨rfl, hB_⟩
 obtain rfl := hB_.symm
 refine ⟨(cW hcl.weak (aK aJ)), fun hS => ?_⟩
 refine bL (by kernel_rfl) ?_; clear hS
 refine ab (ae (ah (aa rfl (ac rfl) (aa rfl (ac rfl) (aa rfl (ac rfl) ?_)))))
 refine am rfl (qT tF rfl (EJ W0 hb c ps pb db qb gb a cap gbs k g hg (by omega) (dT (List.replicate 16 0) 13 [x0, x1, x2, x3] 4) 0 [] hG (m6 rfl 4) (by decide) (by decide) _ rfl c10)) ?_
 rintro _ _ ⟨rfl, Y, rfl, rfl⟩
 refine aa rfl (ac rfl) (aa rfl (aS rfl rfl) (aa rfl (aS rfl rfl) (aa rfl (ai rfl) (aa rfl (ai rfl) (ag (ab (ae (ah (aa rfl (ac rfl) (aa rfl (bI rfl rfl) (aa rfl (ac rfl) ?_)))))))))))
 refine bC rfl rfl rfl ?_ ?_
 intro g13_3
 exact absurd rfl g13_3
 intro g13_3
 refine aa rfl (ac rfl) (ar rfl rfl (aa rfl (bI rfl rfl) (aa rfl (aM rfl rfl) (aa rfl (ac rfl) ?_))))
 refine bC rfl rfl rfl ?_ ?_
 intro g13_7
 exact absurd rfl g13_7
 intro g13_7
 refine aa rfl (ac rfl) (ar rfl rfl (am rfl (bn call15 rfl (EA hb c ps pb db qb gb)) ?_))
 rintro _ B_ ⟨rfl, hB_⟩
 obtain rfl := hB_.symm
 refine ar rfl rfl (am rfl (bn call16 rfl (EC gb c.cats c.gate c.quota)) ?_)
 rintro _ B_ ⟨rfl, hB_⟩
 obtain rfl := hB_.symm
 refine ar rfl rfl (aa rfl (bu Fv rfl) (ar rfl rfl (aa rfl (bI rfl rfl) (aa rfl (aM rfl rfl) (aa rfl (ac rfl) ?_)))))
 refine bC rfl rfl rfl ?_ ?_
 intro g13_14
 exact absurd rfl g13_14
 intro g13_14
 refine aa rfl (ac rfl) (ar rfl rfl (aa rfl (ac rfl) (ar rfl rfl ?_)))
 refine aa rfl (dH fC fD rfl hla rfl rfl hkl (by first | exact Nat.zero_add _ | rfl)) ?_
 refine ar rfl rfl (aa rfl (ao gL rfl (hcl.weak 0 _ rfl)) ?_)
 refine ar rfl rfl (am rfl (eX yw rfl (sJ g (dp (dT (List.replicate 16 0) 13 [x0, x1, x2, x3] 4) 4 0) 4 hG rfl)) ?_)
 rintro _ B_ ⟨rfl, hB_⟩
 obtain rfl := hB_.symm
 refine ar rfl rfl ?_
 refine aa rfl (uT nP cQ fm rfl rfl rfl (by decide) rfl) ?_
 refine ar rfl rfl (aa rfl (bI rfl rfl) (aa rfl (aM rfl rfl) (ag (ab ?_))))
 refine aw rfl ?_ ?_
 intro c13
 exact absurd c13 (by decide)
 intro c13
 refine aB (ab ?_)
 refine dz (dp (dT (List.replicate 16 0) 13 [x0, x1, x2, x3] 4) 4 0, 4, [⟨2, 0, 13, 4, 0, dp (dT (List.replicate 16 0) 13 [x0, x1, x2, x3] 4) 4 0⟩]) ?_ ?_ ?_
 exact ⟨rfl, by simp, by simp⟩
 · repeat (first | exact aX | refine aV rfl ?_)
 dsimp only [List.nil_append]
 exact inferInstance
 intro c10
 refine aB (ab ?_)
 refine dz (List.replicate 16 0, 0, []) ?_ ?_ ?_
 exact ⟨rfl, by simp, by simp⟩
 · repeat (first | exact aX | refine aV rfl ?_)
 dsimp only [List.nil_append]
 exact inferInstance
 intro ⟨rl, pc, es⟩ ⟨hl, hpc, hes⟩
 refine ae ?_
 dsimp only at hl hpc hes ⊢
 have q1 : (dT rl 8 [r, x1, x2, x3] 4).getD 1 0 = 8 ∧ (dT rl 8 [r, x1, x2, x3] 4).getD 2 0 = r ∧ (dT rl 8 [r, x1, x2, x3] 4).getD 3 0 = x1 := xu hl
 refine ah (aa rfl (ac rfl) ?_)
 refine aa rfl (qj rfl rfl (by decide) (by rw [Int.tmod_eq_emod_of_nonneg (by omega)]; omega : Int.tmod (ring : Int) 4 = ((r : Nat) : Int))) ?_
 refine aa rfl (gC nz eb rfl (aZ (by omega))) ?_
 refine aa rfl (ai rfl) (ag (ab (ae (ah (aa rfl (ac rfl) ?_)))))
 refine aa rfl (gC eb gW rfl (jO (by omega))) ?_
 refine aa rfl (dO ij cQ rfl rfl (i := 0) rfl (by decide) (by first | exact Nat.zero_add _ | rfl)) ?_
 refine bD (cm cQ rfl rfl rfl (by simp) (rfl : List.set [wV x0, wV x1, wV x2, wV x3] (0 * 1) (wV r) = [wV r, wV x1, wV x2, wV x3])) ?_
 rintro _ _ rfl
 refine ag (ab (ae ?_))
 rw [show List.set [wV x0, wV x1, wV x2, wV x3] (0 * 1) (wV r) = [wV r, wV x1, wV x2, wV x3] from rfl]
 refine cA [(lg, lo + k * 1, [pV g]), (b9, 0, _)] 6 cz rfl (cW hcl.weak (aK aJ)) (fun hS => ?_)
 refine aj 0 rfl rfl (by kernel_rfl) (by kernel_rfl) (by kernel_rfl) rfl hS (ac rfl) ?_
 refine aj 1 rfl rfl (by kernel_rfl) (by kernel_rfl) (by kernel_rfl) rfl hS (ac rfl) ?_
 refine aj 2 rfl rfl (by kernel_rfl) (by kernel_rfl) (by kernel_rfl) rfl hS (dH fC fD rfl hla rfl rfl hkl (by first | exact Nat.zero_add _ | rfl)) ?_
 refine aj 3 rfl rfl (by kernel_rfl) (by kernel_rfl) (by kernel_rfl) rfl hS (ao gL rfl (my (k := 0) rfl)) ?_
 refine aj 4 rfl rfl (by kernel_rfl) (by kernel_rfl) (by kernel_rfl) rfl hS (cV ks ec rfl (dm (k := 1) rfl) rfl) ?_
 refine bA 5 (by kernel_rfl) rfl rfl (eX tE rfl (pD W0 _ g rl pc 8 [r, x1, x2, x3] rfl hG hl)) rfl ?_; clear hS
 rintro _ B_ ⟨rfl, hB_⟩
 obtain rfl := hB_.symm
 refine ⟨(cW hcl.weak (aK aJ)), fun hS => ?_⟩
 refine bL (by kernel_rfl) ?_; clear hS
 refine ab (ae (f9 (B := bG ps (List.replicate (bp c) bE) :: kH 3 (bB (gU gbs k)) :: pt hb (cX c ps pb db qb gb) :: osl 50 1 (.slice a gbs.length cap) (gbs.map pV) :: pt g (bT cs) :: pt rb (bS (dT rl 8 [r, x1, x2, x3] 4) pc) :: cq tr es :: pt b4 (ax (bU c) 29) :: pt b9 (ax [wV r, wV x1, wV x2, wV x3] 43) :: []) inferInstance ?_))
 refine f9 (fY (A := [bG ps (List.replicate (bp c) bE), kH 3 (bB (gU gbs k))])) ?_
 refine f9 (B := pt hb (cX c ps pb db qb gb) :: osl 50 1 (.slice a gbs.length cap) (gbs.map pV) :: pt g (bT cs) :: pt rb (bS (dT rl 8 [r, x1, x2, x3] 4) pc) :: cq tr es :: kH 5 (bB [bG ps (List.replicate (bp c) bE), kH 3 (bB (gU gbs k))]) :: pt b4 (ax (bU c) 29) :: pt b9 (ax [wV r, wV x1, wV x2, wV x3] 43) :: []) ?_ ?_
 exact (inferInstance : Ent (kH 5 (bB [bG ps (List.replicate (bp c) bE), kH 3 (bB (gU gbs k))]) :: pt hb (cX c ps pb db qb gb) :: osl 50 1 (.slice a gbs.length cap) (gbs.map pV) :: pt g (bT cs) :: pt rb (bS (dT rl 8 [r, x1, x2, x3] 4) pc) :: cq tr es :: pt b4 (ax (bU c) 29) :: pt b9 (ax [wV r, wV x1, wV x2, wV x3] 43) :: []) (pt hb (cX c ps pb db qb gb) :: osl 50 1 (.slice a gbs.length cap) (gbs.map pV) :: pt g (bT cs) :: pt rb (bS (dT rl 8 [r, x1, x2, x3] 4) pc) :: cq tr es :: kH 5 (bB [bG ps (List.replicate (bp c) bE), kH 3 (bB (gU gbs k))]) :: pt b4 (ax (bU c) 29) :: pt b9 (ax [wV r, wV x1, wV x2, wV x3] 43) :: []))
 refine ah (aa rfl (ac rfl) (aa rfl (ac rfl) (aa rfl (ac rfl) ?_)))
 refine am rfl (uJ tF rfl (EO W0 hb c ps pb db qb gb a cap gbs k g hg (by omega) (dT rl 8 [r, x1, x2, x3] 4) pc es hG (m6 hl 4) (by omega) (by omega) _ h q1.1 hr (by rw [q1.2.1]; omega) (by rw [q1.2.2]; exact h1) hgl)) ?_
 rintro _ B_ ⟨rfl, Z, hZ, hB_⟩
 obtain rfl := hB_.symm
 rw [q1.2.1] at hZ ⊢
 obtain ⟨rl2, hrl2⟩ : ∃ rl2, dp (dT rl 8 [r, x1, x2, x3] 4) (eF c k r) 0 = rl2 := ⟨_, rfl⟩
 have hl2 : rl2.length = 16 := by rw [← hrl2, dp, List.length_set, List.length_set]; exact m6 hl 4
 obtain ⟨es2, hes2⟩ : ∃ es2, es ++ [⟨2, 0, 8, eF c k r, pc, rl2⟩] = es2 := ⟨_, rfl⟩
 have hesl : es2.length ≤ 2 := by rw [← hes2]; simp; omega
 rw [hrl2, hes2]
 have q2 : (dT rl2 9 [r, x1, x2, x3] 4).getD 1 0 = 9 ∧ (dT rl2 9 [r, x1, x2, x3] 4).getD 2 0 = r ∧ (dT rl2 9 [r, x1, x2, x3] 4).getD 3 0 = x1 := xu hl2
 refine aa rfl (ac rfl) (aa rfl (aS rfl rfl) (aa rfl (aS rfl rfl) (aa rfl (ai rfl) (aa rfl (ai rfl) (ag (ab (ae ?_)))))))
 refine cA [(lg, lo + k * 1, [pV g]), (b9, 0, _)] 6 cz rfl (cW hcl.weak (aK aJ)) (fun hS => ?_)
 refine aj 0 rfl rfl (by kernel_rfl) (by kernel_rfl) (by kernel_rfl) rfl hS (ac rfl) ?_
 refine aj 1 rfl rfl (by kernel_rfl) (by kernel_rfl) (by kernel_rfl) rfl hS (ac rfl) ?_
 refine aj 2 rfl rfl (by kernel_rfl) (by kernel_rfl) (by kernel_rfl) rfl hS (dH fC fD rfl hla rfl rfl hkl (by first | exact Nat.zero_add _ | rfl)) ?_
 refine aj 3 rfl rfl (by kernel_rfl) (by kernel_rfl) (by kernel_rfl) rfl hS (ao gL rfl (my (k := 0) rfl)) ?_
 refine aj 4 rfl rfl (by kernel_rfl) (by kernel_rfl) (by kernel_rfl) rfl hS (cV ks ec rfl (dm (k := 1) rfl) rfl) ?_
 refine bA 5 (by kernel_rfl) rfl rfl (eX tE rfl (pD W0 _ g rl2 (pc + 4) 9 [r, x1, x2, x3] rfl hG hl2)) rfl ?_; clear hS
 rintro _ B_ ⟨rfl, hB_⟩
 obtain rfl := hB_.symm
 refine ⟨(cW hcl.weak (aK aJ)), fun hS => ?_⟩
 refine bL (by kernel_rfl) ?_; clear hS
 refine ab (ae (ah (aa rfl (ac rfl) (aa rfl (ac rfl) (aa rfl (ac rfl) ?_)))))
 refine am rfl (uJ tF rfl (EL W0 hb c ps pb db qb gb a cap gbs k g hg (by omega) (dT rl2 9 [r, x1, x2, x3] 4) (pc + 4) es2 hG (m6 hl2 4) (by omega) (by omega) [] h q2.1 hr (by rw [q2.2.1]; omega) _ Z (kH 3 (bB (gU gbs k))) (by rw [q2.2.1]; exact fun z1 z2 => hZ (ET hr z2 z1)))) ?_
 rintro _ _ ⟨rfl, Y, rfl, rfl⟩
 rw [q2.2.1]
 refine aa rfl (ac rfl) (aa rfl (aS rfl rfl) (aa rfl (aS rfl rfl) (aa rfl (ai rfl) (aa rfl (ai rfl) (ag (ab (ae (ae (ah (aa rfl (ac rfl) ?_))))))))))
 refine aa rfl (al rfl bw rfl eV rfl (by first | exact Nat.zero_add _ | rfl)) ?_
 refine aa rfl (ao ff rfl (aA rfl)) ?_
 refine aa rfl (bu eI rfl) (aa rfl (cK rfl rfl) (ag (ab ?_)))
 refine aw rfl ?_ ?_
 intro c21
 refine ae (ah (aa rfl (ac rfl) (aa rfl (cu rfl rfl) (aa rfl (ac rfl) ?_))))
 refine cJ rfl rfl rfl ?_ ?_
 intro g22_3
 refine aa rfl (ac rfl) (ar rfl rfl (aa rfl (cu rfl rfl) (aa rfl (aY rfl rfl) (aa rfl (ac rfl) ?_))))
 refine cJ rfl rfl rfl ?_ ?_
 intro g22_7
 refine am rfl (aU q9 rfl (ny)) ?_
 rintro _ B_ ⟨rfl, hB_⟩
 obtain rfl := hB_.symm
 refine aa rfl (aY rfl rfl) (aa rfl (ai rfl) (ag (ab (av (aE (au (.inl rfl) (.cons (ak rfl) .nil) ?_))))))
 exact ⟨_, ⟨rfl, rfl⟩, inferInstance⟩
 intro g22_7
 exact absurd (by rw [iy, if_neg (by omega)]; rfl) g22_7
 intro g22_3
 exact absurd (by rw [eF, if_neg (by omega)]; rfl) g22_3
 intro c21
 refine aB (ab (ae ?_))
 have hrn : r < c.nl.length := by omega
 obtain ⟨nb, no, hna, hnc⟩ := (h.ok.n []).at_ hrn
 have hnx : c.nl[r] = dL c r := by simp [dL, List.getD, hrn]
 rw [hnx] at hnc
 refine ah (aa rfl (ac rfl) (aa rfl (cu rfl rfl) ?_))
 refine aa rfl (al rfl bw rfl eV rfl (by first | exact Nat.zero_add _ | rfl)) ?_
 refine aa rfl (ao ff rfl (aA rfl)) ?_
 refine aa rfl (ac rfl) ?_
 refine aa rfl (dH eI ei rfl hna rfl rfl hrn (by first | exact Nat.zero_add _ | rfl)) ?_
 refine aa rfl (al rfl et rfl az rfl (by first | exact Nat.zero_add _ | rfl)) ?_
 refine aa rfl (ao aQ rfl (hnc.weak 0 _ rfl)) ?_
 refine aa rfl (ac rfl) (aa rfl (bI rfl rfl) (aa rfl (tW pW rfl rfl) ?_))
 refine aa rfl (ac rfl) ?_
 refine cJ rfl rfl rfl ?_ ?_
 intro g23_12
 refine aa rfl (ac rfl) (ar rfl rfl (aa rfl (cu rfl rfl) (ar rfl rfl ?_)))
 refine aa rfl (al rfl bw rfl eV rfl (by first | exact Nat.zero_add _ | rfl)) ?_
 refine ar rfl rfl (aa rfl (ao ff rfl (aA rfl)) ?_)
 refine ar rfl rfl (aa rfl (ac rfl) (ar rfl rfl ?_))
 refine aa rfl (dH eI ei rfl hna rfl rfl hrn (by first | exact Nat.zero_add _ | rfl)) ?_
 refine ar rfl rfl ?_
 refine aa rfl (al rfl et rfl az rfl (by first | exact Nat.zero_add _ | rfl)) ?_
 refine ar rfl rfl (aa rfl (ao aQ rfl (hnc.weak 1 _ rfl)) ?_)
 refine ar rfl rfl (aa rfl (ac rfl) (ar rfl rfl (aa rfl (bI rfl rfl) (ar rfl rfl (aa rfl (tW pW rfl rfl) ?_)))))
 refine aa rfl (aY rfl rfl) (aa rfl (ac rfl) ?_)
 refine cJ rfl rfl rfl ?_ ?_
 intro g23_25
 refine am rfl (aU q9 rfl (ny)) ?_
 rintro _ B_ ⟨rfl, hB_⟩
 obtain rfl := hB_.symm
 refine aa rfl (aY rfl rfl) (aa rfl (ai rfl) (ag (ab (av (au (.inl rfl) (.cons (ak rfl) .nil) ?_)))))
 exact ⟨_, ⟨rfl, rfl⟩, inferInstance⟩
 intro g23_25
 exact absurd (by rw [iy, if_pos hrn]; split <;> simp_all) g23_25
 intro g23_12
 exact absurd (by rw [eF, if_pos hrn]; split <;> simp_all) g23_12
theorem EX (W0 : World) (c : Cfg) (h : CfK W0 c) (i ring x0 x1 x2 x3 : Nat) (hi : i < 256) (h1 : x1 < 4294967296) (hring : ring < 256) :
    aC Tryz.prog W0 4 [.agg (bU c).toArray, .int .u8 i, .int .u8 ring, .agg #[wV x0, wV x1, wV x2, wV x3]] [] (fun v B => v = .bool true ∧ B = []) := by
 by_cases hr : rt c = true
 exact EW W0 c h hr i ring x0 x1 x2 x3 hi h1 hring
 exact EV W0 c h (by simpa using hr) i ring x0 x1 x2 x3
end
section
open Go.ChangeShapes Go.WideShapes Go.ChangeAt Go.RowKit
set_option linter.unusedSimpArgs false
set_option linter.unusedVariables false
theorem own : ownKnob Tryz.prog.godebug = none := by kernel_rfl
theorem EY : laidOutB Tryz.prog = true := by kernel_rfl
variable {W : World} {v : Value}
theorem pF {n : Int} (h : (Lit.int .u32 n).wf = true) : ∃ w : Nat, n = (w : Int) ∧ w < 4294967296 := by
 simp [Lit.wf, IntKind.min, IntKind.max, IntKind.signed, IntKind.bits] at h
 exact ⟨n.toNat, by omega, by omega⟩
theorem EZ {n : Int} (h : (Lit.int .u8 n).wf = true) : ∃ w : Nat, n = (w : Int) ∧ w < 256 := by
 simp [Lit.wf, IntKind.min, IntKind.max, IntKind.signed, IntKind.bits] at h
 exact ⟨n.toNat, by omega, by omega⟩
theorem xw (h : Ty Tryz.prog W 5 v) : ∃ w : Nat, v = .int .u8 w ∧ w < 256 := by
 obtain ⟨n, rfl, hw⟩ := B8 nz h
 obtain ⟨w, rfl, h'⟩ := EZ hw
 exact ⟨w, rfl, h'⟩
end
section
open Go.ChangeShapes Go.WideShapes Go.ChangeAt Go.RowKit
set_option linter.unusedSimpArgs false
set_option linter.unusedVariables false
variable {W : World} {v : Value}
end
section
open Go.ChangeShapes Go.WideShapes Go.ChangeAt Go.RowKit
set_option linter.unusedSimpArgs false
set_option linter.unusedVariables false
variable {W : World} {v : Value}
end
section
open Go.RowKit
end
section
open Go.ChangeShapes Go.WideShapes Go.ChangeAt Go.RowKit
set_option linter.unusedSimpArgs false
set_option linter.unusedVariables false
variable {W : World} {v : Value}
end
section
open Go.ChangeShapes Go.WideShapes Go.ChangeAt Go.RowKit
set_option linter.unusedSimpArgs false
set_option linter.unusedVariables false
variable {W : World} {v : Value}
end
section
open Go.ChangeShapes Go.WideShapes Go.ChangeAt Go.RowKit
set_option linter.unusedSimpArgs false
set_option linter.unusedVariables false
theorem F0 {P : Program} {w : World} {r : Reach} {base : Nat} {t : TypeId} {v : Value} {n e : Nat} (ht : P.underlying t = some (.array n e)) (h : Value.okWide P w r base t v) : ∃ cs, v = .agg cs ∧ cs.size = P.cellsOf t := by
 simp only [Value.okWide, ht] at h
 obtain ⟨cs, h1, h2, _⟩ := h
 exact ⟨cs, h1, h2⟩
theorem F1 {P : Program} {W : World} {t : TypeId} {v : Value} {n e : Nat} (hu : P.underlying t = some (.array n e)) (h : Ty P W t v) : ∃ l : List Value, v = .agg l.toArray ∧ l.length = P.cellsOf t ∧ ∃ fuel, ∀ i, i < n → eQ P W fuel e ((l.drop (i * P.cellsOf e)).take (P.cellsOf e)) := by
 obtain ⟨⟨r, b, h1⟩, fuel, h2⟩ := h
 obtain ⟨cs, rfl, _⟩ := F0 hu h1
 cases fuel with
 | zero => exact absurd h2 (by simp [eQ])
 | succ f =>
  unfold eQ at h2
  simp only [hu] at h2
  exact ⟨cs.toList, by simp, h2.1, f, h2.2⟩
variable {W : World} {v : Value}
end
section
open Go.ChangeShapes Go.WideShapes Go.ChangeAt Go.RowKit
theorem F2 {l : List Value} (h : l.length = 4) : ∃ x0 x1 x2 x3, l = [x0, x1, x2, x3] := by
 match l, h with
 | [x0, x1, x2, x3], _ => exact ⟨x0, x1, x2, x3, rfl⟩
theorem F3 {W : World} {v : Value} (h : Ty Tryz.prog W 43 v) : ∃ x0 x1 x2 x3 : Nat, v = .agg #[wV x0, wV x1, wV x2, wV x3] ∧ x1 < 4294967296 := by
 obtain ⟨l, rfl, hl, f, hi⟩ := F1 ij h
 have hl4 : l.length = 4 := hl.trans (by kernel_rfl)
 obtain ⟨a, b, c, d, rfl⟩ := F2 hl4
 rw [show Tryz.prog.cellsOf 42 = 1 by kernel_rfl] at hi
 obtain ⟨m0, e0, k0⟩ := fJ gW (hi 0 (by decide))
 obtain ⟨m1, e1, k1⟩ := fJ gW (hi 1 (by decide))
 obtain ⟨m2, e2, k2⟩ := fJ gW (hi 2 (by decide))
 obtain ⟨m3, e3, k3⟩ := fJ gW (hi 3 (by decide))
 obtain ⟨x0, rfl, _⟩ := pF k0
 obtain ⟨x1, rfl, q1⟩ := pF k1
 obtain ⟨x2, rfl, _⟩ := pF k2
 obtain ⟨x3, rfl, _⟩ := pF k3
 refine ⟨x0, x1, x2, x3, ?_, q1⟩
 simp at e0 e1 e2 e3
 rw [e0, e1, e2, e3]; rfl
end
section
open Go.ChangeShapes Go.WideShapes Go.ChangeAt Go.RowKit
set_option linter.unusedSimpArgs false
set_option linter.unusedVariables false
variable {W : World} {v : Value}
theorem sQ {l : List Value} (h : l.length = 2) : ∃ x0 x1, l = [x0, x1] := by
 match l, h with
 | [x0, x1], _ => exact ⟨x0, x1, rfl⟩
theorem xx {l : List Value} (h : l.length = 3) : ∃ x0 x1 x2, l = [x0, x1, x2] := by
 match l, h with
 | [x0, x1, x2], _ => exact ⟨x0, x1, x2, rfl⟩
theorem F4 {l : List Value} (h : l.length = 8) : ∃ x0 x1 x2 x3 x4 x5 x6 x7, l = [x0, x1, x2, x3, x4, x5, x6, x7] := by
 match l, h with
 | [x0, x1, x2, x3, x4, x5, x6, x7], _ => exact ⟨x0, x1, x2, x3, x4, x5, x6, x7, rfl⟩
theorem F5 {fuel : Nat} {l : List Value} (h : eQ Tryz.prog W fuel 85 l) : ∃ x : Int × Int × Int, l = dS x ∧ True := by
 obtain ⟨hl, f', hf⟩ := lQ dV h
 obtain ⟨a, b, c, rfl⟩ := xx (hl.trans (by kernel_rfl))
 have h0 := hf _ (List.mem_cons_self ..)
 have h1 := hf _ (List.mem_cons_of_mem _ (List.mem_cons_self ..))
 have h2 := hf _ (List.mem_cons_of_mem _ (List.mem_cons_of_mem _ (List.mem_cons_self ..)))
 rw [show Tryz.prog.cellsOf 3 = 1 by kernel_rfl] at h0 h1 h2
 obtain ⟨x0, e0, _⟩ := fJ eb h0
 obtain ⟨x1, e1, _⟩ := fJ eb h1
 obtain ⟨x2, e2, _⟩ := fJ eb h2
 simp at e0 e1 e2
 exact ⟨(x0, x1, x2), by rw [e0, e1, e2]; rfl, trivial⟩
theorem F6 {fuel : Nat} {l : List Value} (h : eQ Tryz.prog W fuel 144 l) : ∃ x : Int × Int × Int, l = dS x ∧ True := by
 obtain ⟨hl, f', hf⟩ := lQ ie h
 obtain ⟨a, b, c, rfl⟩ := xx (hl.trans (by kernel_rfl))
 have h0 := hf _ (List.mem_cons_self ..)
 have h1 := hf _ (List.mem_cons_of_mem _ (List.mem_cons_self ..))
 have h2 := hf _ (List.mem_cons_of_mem _ (List.mem_cons_of_mem _ (List.mem_cons_self ..)))
 rw [show Tryz.prog.cellsOf 3 = 1 by kernel_rfl] at h0 h1 h2
 obtain ⟨x0, e0, _⟩ := fJ eb h0
 obtain ⟨x1, e1, _⟩ := fJ eb h1
 obtain ⟨x2, e2, _⟩ := fJ eb h2
 simp at e0 e1 e2
 exact ⟨(x0, x1, x2), by rw [e0, e1, e2]; rfl, trivial⟩
theorem F7 {fuel : Nat} {l : List Value} (h : eQ Tryz.prog W fuel 146 l) : ∃ x : Int × Int, l = dj x ∧ True := by
 obtain ⟨hl, f', hf⟩ := lQ eG h
 obtain ⟨a, b, rfl⟩ := sQ (hl.trans (by kernel_rfl))
 have h0 := hf _ (List.mem_cons_self ..)
 have h1 := hf _ (List.mem_cons_of_mem _ (List.mem_cons_self ..))
 rw [show Tryz.prog.cellsOf 3 = 1 by kernel_rfl] at h0 h1
 obtain ⟨x0, e0, _⟩ := fJ eb h0
 obtain ⟨x1, e1, _⟩ := fJ eb h1
 simp at e0 e1
 exact ⟨(x0, x1), by rw [e0, e1], trivial⟩
theorem F8 {fuel : Nat} {l : List Value} (h : eQ Tryz.prog W fuel 61 l) : ∃ x : Int × Int, l = dj x ∧ True := by
 obtain ⟨hl, f', hf⟩ := lQ et h
 obtain ⟨a, b, rfl⟩ := sQ (hl.trans (by kernel_rfl))
 have h0 := hf _ (List.mem_cons_self ..)
 have h1 := hf _ (List.mem_cons_of_mem _ (List.mem_cons_self ..))
 rw [show Tryz.prog.cellsOf 3 = 1 by kernel_rfl] at h0 h1
 obtain ⟨x0, e0, _⟩ := fJ eb h0
 obtain ⟨x1, e1, _⟩ := fJ eb h1
 simp at e0 e1
 exact ⟨(x0, x1), by rw [e0, e1], trivial⟩
theorem F9 {fuel : Nat} {l : List Value} (h : eQ Tryz.prog W fuel 87 l) : ∃ x : Int × Int, l = dj x ∧ True := by
 obtain ⟨hl, f', hf⟩ := lQ l6 h
 obtain ⟨a, b, rfl⟩ := sQ (hl.trans (by kernel_rfl))
 have h0 := hf _ (List.mem_cons_self ..)
 have h1 := hf _ (List.mem_cons_of_mem _ (List.mem_cons_self ..))
 rw [show Tryz.prog.cellsOf 3 = 1 by kernel_rfl] at h0 h1
 obtain ⟨x0, e0, _⟩ := fJ eb h0
 obtain ⟨x1, e1, _⟩ := fJ eb h1
 simp at e0 e1
 exact ⟨(x0, x1), by rw [e0, e1], trivial⟩
theorem Fa (h : Ty Tryz.prog W 29 v) : ∃ c : Cfg, v = .agg (bU c).toArray ∧ CfOk W c ∧ c.gl.length ≤ c.gc := by
 obtain ⟨l, rfl, fuel, hI⟩ := B9 bw h
 obtain ⟨hl, f', hf⟩ := lQ bw hI
 obtain ⟨x0, x1, x2, x3, x4, x5, x6, x7, rfl⟩ := F4 (hl.trans (by kernel_rfl))
 have h0 := hf _ (List.mem_cons_self ..)
 have h1 := hf _ (List.mem_cons_of_mem _ (List.mem_cons_self ..))
 have h2 := hf _ (List.mem_cons_of_mem _ (List.mem_cons_of_mem _ (List.mem_cons_self ..)))
 have h3 := hf _ (List.mem_cons_of_mem _ (List.mem_cons_of_mem _ (List.mem_cons_of_mem _ (List.mem_cons_self ..))))
 have h4 := hf _ (List.mem_cons_of_mem _ (List.mem_cons_of_mem _ (List.mem_cons_of_mem _ (List.mem_cons_of_mem _ (List.mem_cons_self ..)))))
 have h5 := hf _ (List.mem_cons_of_mem _ (List.mem_cons_of_mem _ (List.mem_cons_of_mem _ (List.mem_cons_of_mem _ (List.mem_cons_of_mem _ (List.mem_cons_self ..))))))
 have h6 := hf _ (List.mem_cons_of_mem _ (List.mem_cons_of_mem _ (List.mem_cons_of_mem _ (List.mem_cons_of_mem _ (List.mem_cons_of_mem _ (List.mem_cons_of_mem _ (List.mem_cons_self ..)))))))
 have h7 := hf _ (List.mem_cons_of_mem _ (List.mem_cons_of_mem _ (List.mem_cons_of_mem _ (List.mem_cons_of_mem _ (List.mem_cons_of_mem _ (List.mem_cons_of_mem _ (List.mem_cons_of_mem _ (List.mem_cons_self ..))))))))
 rw [show Tryz.prog.cellsOf 3 = 1 by kernel_rfl] at h0
 rw [show Tryz.prog.cellsOf 23 = 1 by kernel_rfl] at h1
 rw [show Tryz.prog.cellsOf 24 = 1 by kernel_rfl] at h2
 rw [show Tryz.prog.cellsOf 25 = 1 by kernel_rfl] at h3
 rw [show Tryz.prog.cellsOf 26 = 1 by kernel_rfl] at h4
 rw [show Tryz.prog.cellsOf 27 = 1 by kernel_rfl] at h5
 rw [show Tryz.prog.cellsOf 3 = 1 by kernel_rfl] at h6
 rw [show Tryz.prog.cellsOf 3 = 1 by kernel_rfl] at h7
 obtain ⟨y0, e0, _⟩ := fJ eb h0
 obtain ⟨a1, c1, L1, e1, p1, q1, r1, s1⟩ := nf (α := Int × Int × Int) (f := dS) (Q := fun _ => True) 3 dq (by kernel_rfl) (by decide) (fun fuel r h => F5 h) h1
 obtain ⟨a2, c2, L2, e2, p2, q2, r2, s2⟩ := nf (α := Int × Int × Int) (f := dS) (Q := fun _ => True) 3 gi (by kernel_rfl) (by decide) (fun fuel r h => F6 h) h2
 obtain ⟨a3, c3, L3, e3, p3, q3, r3, s3⟩ := nf (α := Int × Int) (f := dj) (Q := fun _ => True) 2 f8 (by kernel_rfl) (by decide) (fun fuel r h => F7 h) h3
 obtain ⟨a4, c4, L4, e4, p4, q4, r4, s4⟩ := nf (α := Int × Int) (f := dj) (Q := fun _ => True) 2 eI (by kernel_rfl) (by decide) (fun fuel r h => F8 h) h4
 obtain ⟨a5, c5, L5, e5, p5, q5, r5, s5⟩ := nf (α := Int × Int) (f := dj) (Q := fun _ => True) 2 js (by kernel_rfl) (by decide) (fun fuel r h => F9 h) h5
 obtain ⟨y6, e6, _⟩ := fJ eb h6
 obtain ⟨y7, e7, _⟩ := fJ eb h7
 simp at e0 e1 e2 e3 e4 e5 e6 e7
 exact ⟨⟨y0, a1, c1, L1, a2, c2, L2, a3, c3, L3, a4, c4, L4, a5, c5, L5, y6, y7⟩, by rw [e0, e1, e2, e3, e4, e5, e6, e7], ⟨fun A => ng r1, fun A => ng r2, fun A => ng r3, fun A => ng r4, fun A => ng r5, p3⟩, p1⟩
end
end Go.Proofs.YtofillmoflhijaaGreat
