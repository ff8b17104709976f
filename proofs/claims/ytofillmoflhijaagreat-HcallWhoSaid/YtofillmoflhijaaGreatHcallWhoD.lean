/-
  Part 4 of the proof of HcallWho: rules, and walks of functions. Conditions: none.
-/
import Derived.Test.YtofillmoflhijaaGreatHcallWhoC
namespace Go.Proofs.YtofillmoflhijaaGreat
open Go.Proofs.Tryz
set_option linter.unusedSimpArgs false
set_option linter.unusedVariables false
set_option maxRecDepth 20000
set_option linter.defProp false
set_option synthInstance.maxSize 8192
set_option synthInstance.maxHeartbeats 2000000
variable {W0 : World} {R : List HP}
section
open Go.RowKit
theorem Cz (W0 : World) (R : List HP) (c : Cfg) (h : CfOk W0 c) :
    aC Tryz.prog W0 77 [.agg (bU c).toArray] R (fun v B => v = .int .i64 (i9 c : Nat) ∧ B = R) := by
 refine aG func77 ntmps77 rfl rfl ?_
 refine ae (ah (am rfl (bJ rfl) ?_))
 rintro _ _ ⟨b1, rfl, rfl⟩
 refine aa rfl (ai rfl) (ag (ab (ae (ae (ah (aa rfl (cp cn bN rfl rfl) ?_))))))
 refine am rfl (aU ti rfl (p7 W0 _ c h)) ?_
 rintro _ B_ ⟨rfl, hB_⟩
 obtain rfl := hB_.symm
 refine aa rfl (bM rfl) (ag (ab ?_))
 refine aw rfl ?_ ?_
 intro c1
 refine ae (ah (aa rfl (ai rfl) (ag (ab (av (aE (au (.inl rfl) (.cons (ak rfl) .nil) ?_)))))))
 have hr : rt c = false := by simpa using c1
 rw [i9, hr]
 exact ⟨_, ⟨rfl, rfl⟩, inferInstance⟩
 intro c1
 have hr : rt c = true := by simpa using c1
 have hR := fb hr
 refine aB (ab (ae (ah (aa rfl (cp cn bN rfl rfl) ?_))))
 refine am rfl (aU nN rfl (lU W0 _ c h.g (pd hR) hR.nn hR.g4)) ?_
 rintro _ B_ ⟨rfl, hB_⟩
 obtain rfl := hB_.symm
 refine aa rfl (ai rfl) (ag (ab (av (au (.inl rfl) (.cons (ak rfl) .nil) ?_))))
 have hn : ((i9 c : Nat) : Int) = dA c c.gl.length := by
  have := hR.nd
  rw [i9, if_pos hr, bp]; omega
 rw [hn]
 exact ⟨_, ⟨rfl, rfl⟩, inferInstance⟩
theorem CB (W0 : World) (R : List HP) (c : Cfg) (h : CfK W0 c) (f : Nat) (hr : rt c = true) (hf : (f : Int) < dA c c.gl.length) :
    aC Tryz.prog W0 79 [.agg (bU c).toArray, .int .i64 f] R (fun v B => v = .agg (pf (j9 c f)).toArray ∧ B = R) := by
 have hR := fb hr
 have hg4 := hR.g4
 have hnd := hR.nd
 have hnb := kS c c.gl.length
 rw [j9, if_pos ⟨hr, by omega, hf⟩]
 refine aG func79 ntmps79 rfl rfl ?_
 refine ae (ah (am rfl (bJ rfl) ?_))
 rintro _ _ ⟨b2, rfl, rfl⟩
 refine am rfl (cM jt) ?_
 rintro _ _ ⟨b4, rfl, rfl⟩
 refine ag (ab (ae (ae (ah (aa rfl (cp cn bN rfl rfl) ?_)))))
 refine am rfl (aU ti rfl (p7 W0 _ c h.ok)) ?_
 rintro _ B_ ⟨rfl, hB_⟩
 obtain rfl := hB_.symm
 rw [hr]
 refine aa rfl (bM rfl) (aa rfl (ac rfl) ?_)
 refine bC rfl rfl rfl ?_ ?_
 intro g1_4
 exact absurd g1_4 (by decide)
 intro g1_4
 refine aa rfl (ac rfl) (ar rfl rfl (aa rfl (b0 rfl rfl) (aa rfl (aM rfl rfl) (ag (ab ?_)))))
 refine aw rfl ?_ ?_
 intro c1
 first | exact absurd c1 (by decide) | (exfalso; omega)
 intro c1
 refine aB (ab (ae (ah (aa rfl (ai rfl) (ag (ab (ae (ae (ah (aa rfl (ai rfl) (ag (ab (aW ?_)))))))))))))
 refine cT (fun i : Nat => i ≤ c.gl.length ∧ ∀ j, j < i → ¬ (f : Int) < df c (j + 1)) (fun i => [(1, .int .i64 f), (2, .pointer (some ⟨b2, 0, none⟩)), (4, .pointer (some ⟨b4, 0, none⟩)), (5, .int .i64 (df c i)), (6, .int .i64 i)]) (fun _ => pt b2 (dd c) :: pt b4 (ax [.int .i64 0, .int .i64 0] 195) :: R) (fun i => c.gl.length - i) 0 ?_ ?_ ?_ ?_
 exact ⟨Nat.zero_le _, fun j hj => absurd hj (Nat.not_lt_zero _)⟩
 · repeat (first | exact aX | refine aV rfl ?_)
 exact inferInstance
 intro i ⟨hi, hI⟩
 refine ae (ae (ah (aa rfl (ac rfl) ?_)))
 refine aa rfl (al rfl bw rfl dD rfl (by first | exact Nat.zero_add _ | rfl)) ?_
 refine aa rfl (ao dN rfl (aA rfl)) ?_
 refine aa rfl (bu dq rfl) (aa rfl (b0 rfl rfl) (ag (ab ?_)))
 refine aw rfl ?_ ?_
 intro c5
 refine aB (ab (ae (aW (ae ?_))))
 have hi1 : i < c.gl.length := by omega
 obtain ⟨g, o, hga, hc⟩ := (h.ok.g []).at_ hi1
 obtain ⟨x, hx⟩ : ∃ x, c.gl[i] = x := ⟨_, rfl⟩
 rw [hx] at hc
 have hA : d5 c i = x := by simp [d5, List.getD, hi1, hx]
 have hbx := hR.gs i hi1
 rw [hA] at hbx
 have hst : df c (i + 1) = df c i + (x.2.1 + x.2.2) := by rw [df, hA]
 have hl1 := jH hR.gs i (by omega)
 refine cA [(b2, 0, bU c), (g, o + i * 3, dS x)] 16 cz rfl (aK (cW hc.weak aJ)) (fun hS => ?_)
 refine aj 0 rfl rfl (by kernel_rfl) (by kernel_rfl) (by kernel_rfl) rfl hS (ac rfl) ?_
 refine aj 1 rfl rfl (by kernel_rfl) (by kernel_rfl) (by kernel_rfl) rfl hS (al rfl bw rfl dD rfl (by first | exact Nat.zero_add _ | rfl)) ?_
 refine aj 2 rfl rfl (by kernel_rfl) (by kernel_rfl) (by kernel_rfl) rfl hS (ao dN rfl (by first | exact aD (k := 0) rfl rfl | exact aD (k := 1) rfl rfl)) ?_
 refine aj 3 rfl rfl (by kernel_rfl) (by kernel_rfl) (by kernel_rfl) rfl hS (ac rfl) ?_
 refine aj 4 rfl rfl (by kernel_rfl) (by kernel_rfl) (by kernel_rfl) rfl hS (dH dq eH rfl hga rfl rfl hi1 (by first | exact Nat.zero_add _ | rfl)) ?_
 refine aj 5 rfl rfl (by kernel_rfl) (by kernel_rfl) (by kernel_rfl) rfl hS (al rfl dV rfl az rfl (by first | exact Nat.zero_add _ | rfl)) ?_
 refine aj 6 rfl rfl (by kernel_rfl) (by kernel_rfl) (by kernel_rfl) rfl hS (ao aQ rfl (fv (k := 1) (j := 1) rfl rfl)) ?_
 refine aj 7 rfl rfl (by kernel_rfl) (by kernel_rfl) (by kernel_rfl) rfl hS (bF rfl rfl (aZ (by omega))) ?_
 refine aj 8 rfl rfl (by kernel_rfl) (by kernel_rfl) (by kernel_rfl) rfl hS (al rfl bw rfl dD rfl (by first | exact Nat.zero_add _ | rfl)) ?_
 refine aj 9 rfl rfl (by kernel_rfl) (by kernel_rfl) (by kernel_rfl) rfl hS (ao dN rfl (by first | exact aD (k := 0) rfl rfl | exact aD (k := 1) rfl rfl)) ?_
 refine aj 10 rfl rfl (by kernel_rfl) (by kernel_rfl) (by kernel_rfl) rfl hS (ac rfl) ?_
 refine aj 11 rfl rfl (by kernel_rfl) (by kernel_rfl) (by kernel_rfl) rfl hS (dH dq eH rfl hga rfl rfl hi1 (by first | exact Nat.zero_add _ | rfl)) ?_
 refine aj 12 rfl rfl (by kernel_rfl) (by kernel_rfl) (by kernel_rfl) rfl hS (al rfl dV rfl az rfl (by first | exact Nat.zero_add _ | rfl)) ?_
 refine aj 13 rfl rfl (by kernel_rfl) (by kernel_rfl) (by kernel_rfl) rfl hS (ao aQ rfl (fv (k := 1) (j := 2) rfl rfl)) ?_
 refine aj 14 rfl rfl (by kernel_rfl) (by kernel_rfl) (by kernel_rfl) rfl hS (bF rfl rfl (by rw [aZ (by omega)]; omega : IntKind.wrap .i64 (df c i + x.2.1 + x.2.2) = df c (i + 1))) ?_
 refine aj 15 rfl rfl (by kernel_rfl) (by kernel_rfl) (by kernel_rfl) rfl hS (ai rfl) ?_
 refine bL (by kernel_rfl) ?_; clear hS
 refine ab (ae (ah (aa rfl (ac rfl) (aa rfl (ac rfl) (aa rfl (b0 rfl rfl) (ag (ab ?_)))))))
 refine aw rfl ?_ ?_
 intro c8
 refine ae (ah (aa rfl (ac rfl) (aa rfl (bY ju jt (aH az (aH az bX)) (bq rfl az rfl rfl (Nat.le_of_ble_eq_true rfl) SetL.eq (bq rfl az rfl rfl (Nat.le_of_ble_eq_true rfl) SetL.eq bW))) ?_)))
 refine bD (cD gX rfl rfl rfl rfl rfl) ?_
 rintro _ _ rfl
 refine ag (ab (av (bj (aE (aE (bj (aE (au (.inl rfl) (.cons (fG mg gX rfl rfl) .nil) ?_))))))))
 rw [wq hi1 c8 hI]
 exact ⟨_, ⟨rfl, rfl⟩, inferInstance⟩
 intro c8
 refine aB (bH (ab (ah (aa rfl (ac rfl) ?_))))
 refine aa rfl (bF rfl rfl (by first | exact aZ (by omega) | rfl)) ?_
 refine aa rfl (ai rfl) (ag (ab ?_))
 refine cG (i + 1) ?_ ?_ ?_ ?_
 refine ⟨by omega, fun j hj => ?_⟩
 rcases Nat.lt_or_ge j i with q | q
 exact hI j q
 rw [show j = i by omega]; exact c8
 omega
 · repeat (first | exact aX | refine aV rfl ?_)
 exact inferInstance
 intro c5
 refine cj (bi (bi (co (ab (ae (ae ?_))))))
 obtain rfl : i = c.gl.length := by omega
 rw [wt hI]
 have hbn := jH hR.gs c.gl.length (Nat.le_refl _)
 refine ah (aa rfl (ac rfl) (aa rfl (ac rfl) ?_))
 refine aa rfl (dX rfl rfl (aZ (by omega))) ?_
 refine aa rfl (al rfl bw rfl eV rfl (by first | exact Nat.zero_add _ | rfl)) ?_
 refine aa rfl (ao ff rfl (aA rfl)) ?_
 refine aa rfl (bu eI rfl) (aa rfl (b0 rfl rfl) (ag (ab ?_)))
 refine aw rfl ?_ ?_
 intro c10
 refine ae (ah (aa rfl (ac rfl) (aa rfl (ac rfl) ?_)))
 refine aa rfl (dX rfl rfl (aZ (by omega))) ?_
 refine aa rfl (bY ju jt (aH az (aH az bX)) (bq rfl az rfl rfl (Nat.le_of_ble_eq_true rfl) SetL.eq (bq rfl az rfl rfl (Nat.le_of_ble_eq_true rfl) SetL.eq bW))) ?_
 refine bD (cD gX rfl rfl rfl rfl rfl) ?_
 rintro _ _ rfl
 refine ag (ab (av (aE (au (.inl rfl) (.cons (fG mg gX rfl rfl) .nil) ?_))))
 exact ⟨_, ⟨rfl, rfl⟩, inferInstance⟩
 intro c10
 omega
theorem CC (W0 : World) (R : List HP) (c : Cfg) (h : CfOk W0 c) (hr : rt c = true) (i : Int) (h0 : 0 ≤ i) (hi : i < c.nl.length) :
    aC Tryz.prog W0 96 [.agg (bU c).toArray, .int .i64 i] R (fun v B => v = .int .i64 (fV c i) ∧ B = R) := by
 have hR := fb hr
 have hnd := hR.nd
 have hnn := hR.nn
 have hnb := kS c c.gl.length
 rw [fV, if_pos ⟨hr, h0, hi⟩]
 refine aG func96 ntmps96 rfl rfl ?_
 refine ae (ah (am rfl (bJ rfl) ?_))
 rintro _ _ ⟨b2, rfl, rfl⟩
 refine aa rfl (ai rfl) (ag (ab (ae (ae (ah (aa rfl (cp cn bN rfl rfl) ?_))))))
 refine am rfl (aU ti rfl (p7 W0 _ c h)) ?_
 rintro _ B_ ⟨rfl, hB_⟩
 obtain rfl := hB_.symm
 rw [hr]
 refine aa rfl (bM rfl) (aa rfl (ac rfl) ?_)
 refine bC rfl rfl rfl ?_ ?_
 intro g1_4
 exact absurd g1_4 (by decide)
 intro g1_4
 refine aa rfl (ac rfl) (ar rfl rfl (aa rfl (b0 rfl rfl) (aa rfl (aM rfl rfl) (aa rfl (ac rfl) ?_))))
 refine bC rfl rfl rfl ?_ ?_
 intro g1_8
 first | exact absurd g1_8 (by decide) | (exfalso; omega)
 intro g1_8
 refine aa rfl (ac rfl) (ar rfl rfl ?_)
 refine aa rfl (al rfl bw rfl eV rfl (by first | exact Nat.zero_add _ | rfl)) ?_
 refine ar rfl rfl (aa rfl (ao ff rfl (aA rfl)) ?_)
 refine ar rfl rfl (aa rfl (bu eI rfl) (ar rfl rfl (aa rfl (cK rfl rfl) (aa rfl (aM rfl rfl) (ag (ab ?_))))))
 refine aw rfl ?_ ?_
 intro c1
 first | exact absurd c1 (by decide) | (exfalso; omega)
 intro c1
 refine aB (ab (ae ?_))
 refine cA [(b2, 0, _)] 9 cz rfl (aK aJ) (fun hS => ?_)
 refine aj 0 rfl rfl (by kernel_rfl) (by kernel_rfl) (by kernel_rfl) rfl hS (cV cn bN rfl (dm (k := 0) rfl) rfl) ?_
 refine aj 2 rfl rfl (by kernel_rfl) (by kernel_rfl) (by kernel_rfl) rfl hS (al rfl bw rfl eV rfl (by first | exact Nat.zero_add _ | rfl)) ?_
 refine aj 3 rfl rfl (by kernel_rfl) (by kernel_rfl) (by kernel_rfl) rfl hS (ao ff rfl (aD (k := 0) rfl rfl)) ?_
 refine aj 4 rfl rfl (by kernel_rfl) (by kernel_rfl) (by kernel_rfl) rfl hS (bu eI rfl) ?_
 refine aj 6 rfl rfl (by kernel_rfl) (by kernel_rfl) (by kernel_rfl) rfl hS (ac rfl) ?_
 refine bA 1 (by kernel_rfl) rfl rfl (aU nN rfl (lU W0 _ c h.g (pd hR) hR.nn hR.g4)) rfl ?_; clear hS
 rintro _ B_ ⟨rfl, hB_⟩
 obtain rfl := hB_.symm
 refine ⟨(aK aJ), fun hS => ?_⟩
 refine aj 5 rfl rfl (by kernel_rfl) (by kernel_rfl) (by kernel_rfl) rfl hS (dX rfl rfl (aZ (by omega))) ?_
 refine aj 7 rfl rfl (by kernel_rfl) (by kernel_rfl) (by kernel_rfl) rfl hS (bF rfl rfl (by rw [aZ (by omega)]; omega : IntKind.wrap .i64 (dA c c.gl.length - (c.nl.length : Int) + i) = df c c.gl.length + i)) ?_
 refine aj 8 rfl rfl (by kernel_rfl) (by kernel_rfl) (by kernel_rfl) rfl hS (ai rfl) ?_
 refine bL (by kernel_rfl) ?_; clear hS
 refine ab (av (au (.inl rfl) (.cons (ak rfl) .nil) ?_))
 exact ⟨_, ⟨rfl, rfl⟩, inferInstance⟩
abbrev bS (rl : List Nat) (pc : Nat) : Obj := ax (rl.map wV ++ [.bool true, wV pc]) 254
theorem ww {rl : List Nat} {pc : Nat} (h : rl.length = 16) : (rl.map wV ++ [Value.bool true, wV pc]).length = 18 := by simp [h]
theorem CE {rl : List Nat} {pc : Nat} (h : rl.length = 16) : ((rl.map wV ++ [Value.bool true, wV pc]).drop 0).take 16 = rl.map wV := by
 rw [List.drop_zero, List.take_left' (by rw [List.length_map, h])]
theorem wx {rl : List Nat} {pc : Nat} (h : rl.length = 16) : (rl.map wV ++ [Value.bool true, wV pc])[16]? = some (.bool true) := by
 rw [List.getElem?_append_right (by rw [List.length_map, h]; exact Nat.le_refl _), List.length_map, h]; rfl
theorem CF {rl : List Nat} {pc : Nat} (h : rl.length = 16) : (rl.map wV ++ [Value.bool true, wV pc])[17]? = some (wV pc) := by
 rw [List.getElem?_append_right (by rw [List.length_map, h]; decide), List.length_map, h]; rfl
theorem CG {rl : List Nat} {pc q : Nat} (h : rl.length = 16) : (rl.map wV ++ [Value.bool true, wV pc]).set 17 (wV q) = rl.map wV ++ [.bool true, wV q] := by
 rw [List.set_append_right _ _ (by rw [List.length_map, h]; decide), List.length_map, h]; rfl
theorem CH {rl : List Nat} {pc i x : Nat} (h : rl.length = 16) (hi : i < 16) : (rl.map wV ++ [Value.bool true, wV pc]).set (i * 1) (wV x) = (rl.set i x).map wV ++ [.bool true, wV pc] := by
 rw [Nat.mul_one, List.set_append_left _ _ (by rw [List.length_map, h]; exact hi), List.map_set]
theorem wy (rl : List Nat) : eM (rl.map wV) = true := by simp [eM, wV, Value.oneCell']
section
variable {P : Program} {S : World → Prop} {N : FSz} {e : bQ} {t : TypeId} {l : List Value} {v : Value}
theorem CI {E n i : Nat} {y : Operand} (hu : P.underlying t = some (.array n E)) (hs : ∀ w, (sizeOf E).run P w = .ok 1 w) (hz : ∀ w, (zeroValue t).run P w = .ok (.agg l.toArray) w)
    (hy : ev e y = some v) (h1 : v.oneCell' = true) (hi : i < l.length) : cC P S N e (.build t #[(i, y)]) (.agg (l.set i v).toArray) := fun a w _ _ _ _ _ hF _ => by
 have hb : Instr.build t ((#[(i, y)] : Array (Nat × Operand)).map fun (i, x) => (i, a.eval x)) = (do
     let zero := (← zeroValue t).cells
     match ← underlying t with
     | .struct fields =>
       let places ← fields.mapM lu
       let some cells := Instr.fill (places[·]?) zero ((#[(i, y)] : Array (Nat × Operand)).map fun (i, x) => (i, a.eval x)).toList | stuck "build: no such field, or a part of the wrong size"
       pure (.agg cells)
     | .array _ elem =>
       let size ← sizeOf elem
       let some cells := Instr.fill (fun i => some (i * size, size)) zero ((#[(i, y)] : Array (Nat × Operand)).map fun (i, x) => (i, a.eval x)).toList | stuck "build: a part of the wrong size"
       pure (.agg cells)
     | _ => stuck "build: struct or array type expected") := rfl
 have hc : ¬ (i + 1 > l.length) := by omega
 have hf : Instr.fill (fun i => some (i * 1, 1)) l.toArray [(i, a.eval y)] = some (l.set i v).toArray := by
  simp only [Instr.fill, hF.eval hy, ku h1, Nat.mul_one]
  simp [hc]
 simp only [execOp, hb, Sem.run_bind, hz, dY hu, hs, Result.andThen_ok, Value.cells, Sem.run_pure, Array.toList_map, List.map_cons, List.map_nil]
 rw [hf]; rfl
end
theorem CJ : aC Tryz.prog W0 210 [] R (fun v B => ∃ b, v = .pointer (some ⟨b, 0, none⟩) ∧ B = pt b (bS (List.replicate 16 0) 0) :: R) := by
 refine aG func210 ntmps210 rfl rfl ?_
 refine ae (ah (aa rfl (ai rfl) (ag (ab (ae (ah (aa rfl (bY nO zeroValue252 (aH iY (aH cB bX)) (bq rfl cB rfl rfl (Nat.le_of_ble_eq_true rfl) SetL.eq bW)) ?_)))))))
 refine aa rfl (bY km zeroValue254 (aH lh (aH cQ bX)) (im rfl lh rfl rfl (Nat.le_of_ble_eq_true rfl) rfl bW)) ?_
 refine am rfl (bJ rfl) ?_
 rintro _ _ ⟨b1, rfl, rfl⟩
 refine aa rfl (ai rfl) (ag (ab (av (au (.inl rfl) (.cons (ak rfl) .nil) ?_))))
 exact ⟨_, ⟨_, rfl, rfl⟩, ent_refl⟩
theorem wz (b : Nat) (rl : List Nat) (pc : Nat) (hl : rl.length = 16) : aC Tryz.prog W0 44 [.pointer (some ⟨b, 0, none⟩)] (pt b (bS rl pc) :: R) (fun v B => v = .agg (rl.map wV).toArray ∧ B = pt b (bS rl pc) :: R) := by
 refine aG func44 ntmps44 rfl rfl ?_
 refine ae (ah (am rfl (cM y1) ?_))
 rintro _ _ ⟨b1, rfl, rfl⟩
 refine ag (ab (ae (ae (ah (aa rfl (ac rfl) (aa rfl (dv pP rfl rfl) (ag (ab ?_))))))))
 refine aw rfl ?_ ?_
 intro c1
 cases c1
 intro c1
 refine aB (ab (ae (ah (aa rfl (ac rfl) (aa rfl (aF rfl) ?_)))))
 refine aa rfl (al rfl km rfl lh rfl (by first | exact Nat.zero_add _ | rfl)) ?_
 refine aa rfl (al rfl nO rfl iY rfl (by first | exact Nat.zero_add _ | rfl)) ?_
 refine aa rfl (cV y2 iY rfl (fN (b := b) (CE hl) (by rw [List.length_map, hl])) (by rw [List.length_map, hl])) ?_
 refine bD (cD iY rfl rfl (by rw [List.length_map, hl]) (wy rl) rfl) ?_
 rintro _ _ rfl
 refine ag (ab (av ?_))
 refine au (.inl rfl) (.cons (fG y2 iY rfl (by rw [List.length_map, hl])) .nil) ?_
 exact ⟨_, ⟨rfl, rfl⟩, inferInstance⟩
theorem CK (b : Nat) (rl : List Nat) (pc : Nat) (hl : rl.length = 16) : aC Tryz.prog W0 106 [.pointer (some ⟨b, 0, none⟩)] (pt b (bS rl pc) :: R) (fun v B => v = wV pc ∧ B = pt b (bS rl pc) :: R) := by
 refine aG func106 ntmps106 rfl rfl ?_
 refine ae (ah (aa rfl (ai rfl) (ag (ab (ae (ae (ah (aa rfl (ac rfl) (aa rfl (dv pP rfl rfl) (ag (ab ?_)))))))))))
 refine aw rfl ?_ ?_
 intro c1
 cases c1
 intro c1
 refine aB (ab (ae (ah (aa rfl (ac rfl) (aa rfl (aF rfl) ?_)))))
 refine aa rfl (al rfl km rfl cQ rfl (by first | exact Nat.zero_add _ | rfl)) ?_
 refine aa rfl (ao fm rfl (aA (CF hl))) ?_
 refine aa rfl (ai rfl) (ag (ab (av (au (.inl rfl) (.cons (ak rfl) .nil) ?_))))
 exact ⟨_, ⟨rfl, rfl⟩, inferInstance⟩
theorem CL (b : Nat) (rl : List Nat) (pc q : Nat) (hl : rl.length = 16) : aC Tryz.prog W0 107 [.pointer (some ⟨b, 0, none⟩), wV q] (pt b (bS rl pc) :: R) (fun v B => v = .int .i64 0 ∧ B = pt b (bS rl q) :: R) := by
 refine aG func107 ntmps107 rfl rfl ?_
 refine ae (ah (aa rfl (ai rfl) (ag (ab (ae (ae (ah (aa rfl (ac rfl) (aa rfl (dv pP rfl rfl) (aa rfl (ac rfl) ?_))))))))))
 refine bC rfl rfl rfl ?_ ?_
 intro g1_3
 cases g1_3
 intro g1_3
 refine aa rfl (ac rfl) (ar rfl rfl (aa rfl (aF rfl) (ar rfl rfl ?_)))
 refine aa rfl (al rfl km rfl lh rfl (by first | exact Nat.zero_add _ | rfl)) ?_
 refine ar rfl rfl ?_
 refine aa rfl (al rfl nO rfl cB rfl (by first | exact Nat.zero_add _ | rfl)) ?_
 refine ar rfl rfl (aa rfl (ao fM rfl (aA (wx hl))) ?_)
 refine ar rfl rfl (aa rfl (bM rfl) (aa rfl (aM rfl rfl) (ag (ab ?_))))
 refine aw rfl ?_ ?_
 intro c1
 exact absurd c1 (by decide)
 intro c1
 refine aB (ab (ae (ah (aa rfl (ac rfl) (aa rfl (ac rfl) (aa rfl (aF rfl) ?_))))))
 refine aa rfl (al rfl km rfl cQ rfl (by first | exact Nat.zero_add _ | rfl)) ?_
 refine bD (cm cQ rfl rfl rfl (by rw [ww hl]; decide) (CG hl)) ?_
 rintro _ _ rfl
 refine ag (ab (ae (ah (aa rfl (ai rfl) (ag (ab (av (au (.inl rfl) (.cons (ak rfl) .nil) ?_))))))))
 exact ⟨_, ⟨rfl, rfl⟩, inferInstance⟩
def jZ (i : Int) : Bool := decide (0 ≤ i ∧ i < 16)
theorem wA (b : Nat) (rl : List Nat) (pc : Nat) (hl : rl.length = 16) (i : Int) : aC Tryz.prog W0 217 [.pointer (some ⟨b, 0, none⟩), .int .i64 i] (pt b (bS rl pc) :: R) (fun v B => v = .int .i64 (if jZ i then 0 else 1) ∧ B = pt b (bS rl pc) :: R) := by
 refine aG func217 ntmps217 rfl rfl ?_
 refine ae (ah (aa rfl (ai rfl) (ag (ab (ae (aW (ae (ah (aa rfl (ac rfl) (aa rfl (aF rfl) ?_))))))))))
 refine aa rfl (al rfl nO rfl cB rfl (by first | exact Nat.zero_add _ | rfl)) ?_
 refine aa rfl (ao fM rfl (aA (wx hl))) ?_
 refine aa rfl (bM rfl) (aa rfl (ai rfl) (ag (ab ?_)))
 refine aw rfl ?_ ?_
 intro c1
 exact absurd c1 (by decide)
 intro c1
 refine ae (ae (ah (aa rfl (ac rfl) (aa rfl (b0 rfl rfl) (aa rfl (ai rfl) (ag (ab ?_)))))))
 refine aw rfl ?_ ?_
 intro c3
 refine aB (ab (cg rfl (ae (ah (aa rfl (ai rfl) (ag (ab (av (bj (aE (au (.inl rfl) (.cons (ak rfl) .nil) ?_)))))))))))
 rw [if_neg (by simp only [jZ, decide_eq_true_eq]; omega)]
 exact ⟨_, ⟨rfl, rfl⟩, inferInstance⟩
 intro c3
 refine ah (aa rfl (ac rfl) (aa rfl (cK rfl rfl) (aa rfl (ai rfl) (ag (ab ?_)))))
 refine aw rfl ?_ ?_
 intro c4
 refine ae (ah (aa rfl (ai rfl) (ag (ab (av (bj (aE (au (.inl rfl) (.cons (ak rfl) .nil) ?_))))))))
 rw [if_neg (by simp only [jZ, decide_eq_true_eq]; omega)]
 exact ⟨_, ⟨rfl, rfl⟩, inferInstance⟩
 intro c4
 refine aB (bH (ab (ae (ah (aa rfl (ai rfl) (ag (ab (av (au (.inl rfl) (.cons (ak rfl) .nil) ?_)))))))))
 rw [if_pos (by simp only [jZ, decide_eq_true_eq]; omega)]
 exact ⟨_, ⟨rfl, rfl⟩, inferInstance⟩
theorem CM (b : Nat) (rl : List Nat) (pc i x : Nat) (hl : rl.length = 16) (hi : i < 16) (h0 : i ≠ 0) : aC Tryz.prog W0 218 [.pointer (some ⟨b, 0, none⟩), .int .i64 i, wV x] (pt b (bS rl pc) :: R) (fun v B => v = .tuple #[] ∧ B = pt b (bS (rl.set i x) pc) :: R) := by
 refine aG func218 ntmps218 rfl rfl ?_
 refine ae (ah (aa rfl (ac rfl) (aa rfl (bI rfl rfl) (ag (ab ?_)))))
 refine aw rfl ?_ ?_
 intro c0
 refine ah (aa rfl (ac rfl) (aa rfl (ac rfl) (aa rfl (ac rfl) (aa rfl (aF rfl) ?_))))
 refine aa rfl (al rfl nO rfl iY rfl (by first | exact Nat.zero_add _ | rfl)) ?_
 refine aa rfl (dO nP cQ rfl rfl rfl hi (by first | exact Nat.zero_add _ | rfl)) ?_
 refine bD (cm cQ rfl rfl rfl (by rw [ww hl]; omega) (CH hl hi)) ?_
 rintro _ _ rfl
 refine ag (au (.inr rfl) .nil ?_)
 exact ⟨_, ⟨rfl, rfl⟩, inferInstance⟩
 intro c0
 simp at c0; omega
theorem sg (b : Nat) (rl : List Nat) (pc i x : Nat) (hl : rl.length = 16) (hi : i < 16) (h0 : i ≠ 0) : aC Tryz.prog W0 98 [.pointer (some ⟨b, 0, none⟩), .int .i64 i, wV x] (pt b (bS rl pc) :: R) (fun v B => v = .int .i64 0 ∧ B = pt b (bS (rl.set i x) pc) :: R) := by
 have hir : jZ i = true := by simp only [jZ, decide_eq_true_eq]; omega
 refine aG func98 ntmps98 rfl rfl ?_
 refine ae (ah (aa rfl (ai rfl) (ag (ab (ae (ae (ah (aa rfl (ac rfl) (aa rfl (dv pP rfl rfl) (ag (ab ?_)))))))))))
 refine aw rfl ?_ ?_
 intro c1
 cases c1
 intro c1
 refine aB (ab (ae (ah (aa rfl (ac rfl) (aa rfl (aF rfl) ?_)))))
 refine aa rfl (al rfl km rfl lh rfl (by first | exact Nat.zero_add _ | rfl)) ?_
 refine aa rfl (ac rfl) (am rfl (bn call217 rfl (wA b rl pc hl i)) ?_)
 rintro _ B_ ⟨rfl, hB_⟩
 obtain rfl := hB_.symm
 refine aa rfl (ai rfl) (ag (ab (ae (ae (ah (aa rfl (ac rfl) (aa rfl (cu rfl rfl) (ag (ab ?_)))))))))
 refine aw rfl ?_ ?_
 intro c4
 refine ah (aa rfl (ac rfl) (aa rfl (aF rfl) ?_))
 refine aa rfl (al rfl km rfl lh rfl (by first | exact Nat.zero_add _ | rfl)) ?_
 refine aa rfl (ac rfl) (aa rfl (ac rfl) (am rfl (bn call218 rfl (CM b rl pc i x hl hi h0)) ?_))
 rintro _ B_ ⟨rfl, hB_⟩
 obtain rfl := hB_.symm
 refine ag (ab (ae (ah (aa rfl (ac rfl) (aa rfl (ai rfl) (ag (ab (av (au (.inl rfl) (.cons (ak rfl) .nil) ?_)))))))))
 rw [hir]
 exact ⟨_, ⟨rfl, rfl⟩, inferInstance⟩
 intro c4
 exact absurd (by rw [hir]; rfl) c4
abbrev wB (id : Nat) : Obj := ax ([wV 0, wV 0, wV 0, wV 0, wV 0, wV 4, wV 0] ++ [.int .i64 id, .bool true]) 459
theorem CN : aC Tryz.prog W0 303 [] R (fun v B => v = .agg #[wV 0, wV 0, wV 0, wV 0, wV 0, wV 4, wV 0] ∧ B = R) := by
 refine aG func303 ntmps303 rfl rfl ?_
 refine ae (ah (am rfl (cM y3) ?_))
 rintro _ _ ⟨b1, rfl, rfl⟩
 refine ag (ab (ae (ah ?_)))
 refine aa rfl (CI y4 cQ y3 rfl rfl (by decide)) ?_
 refine bD (cD lj rfl rfl rfl rfl rfl) ?_
 rintro _ _ rfl
 refine ag (ab (av (au (.inl rfl) (.cons (fG isAgg456 lj rfl rfl) .nil) ?_)))
 exact ⟨_, ⟨rfl, rfl⟩, inferInstance⟩
theorem CO (i : Nat) (hi : i < 4) : aC Tryz.prog W0 208 [.int .i64 i] R (fun v B => ∃ b, v = .tuple #[.pointer (some ⟨b, 0, none⟩), .int .i64 0] ∧ B = pt b (wB i) :: R) := by
 refine aG func208 ntmps208 rfl rfl ?_
 refine ae (ah (aa rfl (ai rfl) (aa rfl (ai rfl) (ag (ab (ae (ae (ah (aa rfl (ac rfl) (aa rfl (b0 rfl rfl) (aa rfl (ac rfl) ?_)))))))))))
 refine bC rfl rfl rfl ?_ ?_
 intro g1_3
 omega
 intro g1_3
 refine aa rfl (ac rfl) (ar rfl rfl (aa rfl (cK rfl rfl) (aa rfl (aM rfl rfl) (ag (ab ?_)))))
 refine aw rfl ?_ ?_
 intro c1
 omega
 intro c1
 refine aB (ab (ae (ah (am rfl (aU call303 rfl (CN)) ?_))))
 rintro _ B_ ⟨rfl, hB_⟩
 obtain rfl := hB_.symm
 refine aa rfl (ac rfl) (aa rfl (bY underlying459 zeroValue459 (aH lj (aH az (aH cB bX))) (im rfl lj rfl rfl (Nat.le_of_ble_eq_true rfl) SetRL.eq (bq rfl az rfl rfl (Nat.le_of_ble_eq_true rfl) SetL.eq (bq rfl cB rfl rfl (Nat.le_of_ble_eq_true rfl) SetL.eq bW)))) ?_)
 refine am rfl (bJ rfl) ?_
 rintro _ _ ⟨b1, rfl, rfl⟩
 refine aa rfl (ai rfl) (aa rfl (ai rfl) (ag (ab (av (au (.inl rfl) (.cons (ak rfl) (.cons (ak rfl) .nil)) ?_)))))
 exact ⟨_, ⟨_, rfl, rfl⟩, ent_refl⟩
abbrev iu : Obj := ax ([.bool false, .bool false, .int .i64 0, .int .i64 0, .bool false, .bool false, .int .i64 0, .int .i64 0, .bool false, .bool false, .int .i64 0, .int .i64 0, .bool false, .bool false, .int .i64 0, .int .i64 0, .bool false, .bool false, .int .i64 0, .int .i64 0, .bool false, .bool false, .int .i64 0, .int .i64 0, .bool false, .bool false, .int .i64 0, .int .i64 0, .bool false, .bool false, .int .i64 0, .int .i64 0, .slice none 0 0, .int .i64 0, .bool false].set 34 (.bool true)) 285
theorem CP : aC Tryz.prog W0 211 [] R (fun v B => ∃ b, v = .pointer (some ⟨b, 0, none⟩) ∧ B = pt b iu :: R) := by
 refine aG func211 ntmps211 rfl rfl ?_
 refine ae (ah (aa rfl (ai rfl) (ag (ab (ae (ah (aa rfl (bY jv zeroValue285 (aH pQ (aH y5 (aH az (aH cB bX)))) (bq rfl cB rfl rfl (Nat.le_of_ble_eq_true rfl) SetL.eq bW)) ?_)))))))
 refine am rfl (bJ rfl) ?_
 rintro _ _ ⟨b1, rfl, rfl⟩
 refine aa rfl (ai rfl) (ag (ab (av (au (.inl rfl) (.cons (ak rfl) .nil) ?_))))
 exact ⟨_, ⟨_, rfl, rfl⟩, ent_refl⟩
abbrev wC : Obj := ax [du, .bool false, .bool false, .bool false, .bool false, .int .i64 0, .bool true] 468
theorem CQ : aC Tryz.prog W0 212 [] R (fun v B => ∃ b, v = .pointer (some ⟨b, 0, none⟩) ∧ B = pt b wC :: R) := by
 refine aG func212 ntmps212 rfl rfl ?_
 refine ae (ah (aa rfl (ai rfl) (ag (ab (ae (ah (aa rfl (bY underlying468 zeroValue468 (aH sizeOf465 (aH sizeOf466 (aH az (aH cB bX)))) (bq rfl cB rfl rfl (Nat.le_of_ble_eq_true rfl) SetL.eq bW)) ?_)))))))
 refine am rfl (bJ rfl) ?_
 rintro _ _ ⟨b1, rfl, rfl⟩
 refine aa rfl (ai rfl) (ag (ab (av (au (.inl rfl) (.cons (ak rfl) .nil) ?_))))
 exact ⟨_, ⟨_, rfl, rfl⟩, ent_refl⟩
abbrev wD : Obj := ax [du, .bool true] 377
theorem CR : aC Tryz.prog W0 92 [] R (fun v B => ∃ b, v = .pointer (some ⟨b, 0, none⟩) ∧ B = pt b wD :: R) := by
 refine aG func92 ntmps92 rfl rfl ?_
 refine ae (ah (aa rfl (ai rfl) (ag (ab (ae (ah (aa rfl (bY underlying377 zeroValue377 (aH mb (aH cB bX)) (bq rfl cB rfl rfl (Nat.le_of_ble_eq_true rfl) SetL.eq bW)) ?_)))))))
 refine am rfl (bJ rfl) ?_
 rintro _ _ ⟨b1, rfl, rfl⟩
 refine aa rfl (ai rfl) (ag (ab (av (au (.inl rfl) (.cons (ak rfl) .nil) ?_))))
 exact ⟨_, ⟨_, rfl, rfl⟩, ent_refl⟩
structure Evt where
  k : Int
  clock : Int
  code : Nat
  val : Nat
  pc : Nat
  rl : List Nat
@[reducible] def ja (e : Evt) : List Value := [.int .i64 e.k, .int .i64 e.clock, wV e.code, wV e.val, wV e.pc] ++ (List.range 16).map fun i => wV (e.rl.getD i 0)
theorem CS (e : Evt) : (ja e).length = 21 := by simp [ja]
theorem CU {e : Evt} (h : e.rl.length = 16) : ja e = [.int .i64 e.k, .int .i64 e.clock, wV e.code, wV e.val, wV e.pc] ++ e.rl.map wV := by
 unfold ja; congr 1
 apply List.ext_getElem
 simp [h]
 intro i h1 h2
 have : i < e.rl.length := by simpa using h2
 simp [List.getD, this]
def cq (b : Nat) (es : List Evt) : HP := chk (fun C => ∃ a c, C = [pt b (ax [.slice a es.length c, .bool true] 184), osl 407 21 (.slice a es.length c) (es.flatMap ja)])
section
variable {P : Program} {W0 : World} {N : FSz} {K : Act → World → Prop} {e : bQ} {A B R R1 R2 : List HP} {b n : Nat} {es : List Evt} {f : FuncId} {args : List Value} {Post : Value → List HP → Prop}
theorem sh [hk : Tk cq b A es R] (h : ∀ a c, aT W0 N K e (pt b (ax [.slice a es.length c, .bool true] 184) :: osl 407 21 (.slice a es.length c) (es.flatMap ja) :: R)) : aT W0 N K e A :=
  ed (r := cq) (b := b) (jh fun C hC => by obtain ⟨a, c, rfl⟩ := hC; exact h a c)
theorem pi {a : Option Addr} {c : Nat} {xs : List Value} [h1 : Tk pt b A (ax [.slice a n c, .bool true] 184) R1] [h2 : Tk (osl 407 21) (.slice a n c) R1 xs R2] (hn : n = es.length) (hx : xs = es.flatMap ja) [k : Ent R2 B] : Ent A (cq b es :: B) := by
 subst hn; subst hx
 exact (Ent.ofPerm (h1.perm.trans (h2.perm.cons _))).trans ((Ent.cons (Ent.cons k)).trans (eZ (R := B) (C := [_, _]) ⟨a, c, rfl⟩))
end
theorem CV : aC Tryz.prog W0 93 [] R (fun v B => ∃ b, v = .pointer (some ⟨b, 0, none⟩) ∧ B = cq b [] :: R) := by
 refine aG func93 ntmps93 rfl rfl ?_
 refine ae (ah (aa rfl (ai rfl) (ag (ab (ae (ah (aa rfl (bY mh zeroValue184 (aH ko (aH cB bX)) (bq rfl cB rfl rfl (Nat.le_of_ble_eq_true rfl) SetL.eq bW)) ?_)))))))
 refine am rfl (bJ rfl) ?_
 rintro _ _ ⟨b1, rfl, rfl⟩
 refine aa rfl (ai rfl) (ag (ab (av (au (.inl rfl) (.cons (ak rfl) .nil) ?_))))
 exact ⟨_, ⟨_, rfl, rfl⟩, (Ent.cons (fH (E := 407) (sz := 21) (A := R) (B := R))).trans (eZ (R := R) (C := [_, _]) ⟨none, 0, rfl⟩)⟩
theorem wE (b : Nat) (es : List Evt) : aC Tryz.prog W0 74 [.pointer (some ⟨b, 0, none⟩)] (cq b es :: R) (fun v B => v = .bool false ∧ B = cq b es :: R) := by
 refine aG func74 ntmps74 rfl rfl ?_
 refine ae (ah (aa rfl (ai rfl) (ag (ab (ae ?_)))))
 refine sh (b := b) fun a c => ?_
 refine ah (aa rfl (ac rfl) (aa rfl (dv underlying94 rfl rfl) (aa rfl (ac rfl) ?_)))
 refine bC rfl rfl rfl ?_ ?_
 intro g1_3
 cases g1_3
 intro g1_3
 refine aa rfl (ac rfl) (ar rfl rfl (aa rfl (aF rfl) (ar rfl rfl ?_)))
 refine aa rfl (al rfl mh rfl cB rfl (by first | exact Nat.zero_add _ | rfl)) ?_
 refine ar rfl rfl (aa rfl (ao fM rfl (aA rfl)) ?_)
 refine ar rfl rfl (aa rfl (bM rfl) (aa rfl (aM rfl rfl) (aa rfl (ai rfl) (ag (ab (av (au (.inl rfl) (.cons (ak rfl) .nil) ?_)))))))
 exact ⟨_, ⟨rfl, rfl⟩, pi rfl rfl⟩
theorem CW (b : Nat) (es : List Evt) : aC Tryz.prog W0 31 [.pointer (some ⟨b, 0, none⟩)] (cq b es :: R) (fun v B => v = .int .i64 (es.length : Nat) ∧ B = cq b es :: R) := by
 refine aG func31 ntmps31 rfl rfl ?_
 refine ae (ah (aa rfl (ai rfl) (ag (ab (ae (ae (ah (aa rfl (ac rfl) (am rfl (bn call74 rfl (wE b es)) ?_)))))))))
 rintro _ B_ ⟨rfl, hB_⟩
 obtain rfl := hB_.symm
 refine ag (ab ?_)
 refine aw rfl ?_ ?_
 intro c1
 exact absurd c1 (by decide)
 intro c1
 refine aB (ab (ae ?_))
 refine sh (b := b) fun a c => ?_
 refine ah (aa rfl (ac rfl) (aa rfl (aF rfl) ?_))
 refine aa rfl (al rfl mh rfl ko rfl (by first | exact Nat.zero_add _ | rfl)) ?_
 refine aa rfl (ao tj rfl (aA rfl)) ?_
 refine aa rfl (bu nQ rfl) (aa rfl (ai rfl) (ag (ab (av (au (.inl rfl) (.cons (ak rfl) .nil) ?_)))))
 exact ⟨_, ⟨rfl, rfl⟩, pi rfl rfl⟩
theorem CX (W0 : World) (R : List HP) (b : Nat) (es : List Evt) (x : Evt) (hn : es.length < 4096) : aC Tryz.prog W0 241 [.pointer (some ⟨b, 0, none⟩), .agg (ja x).toArray] (cq b es :: R) (fun v B => v = .int .i64 0 ∧ B = cq b (es ++ [x]) :: R) := by
 have he : es.flatMap ja ++ [ja x].flatten = (es ++ [x]).flatMap ja := by simp
 refine aG func241 ntmps241 rfl rfl ?_
 refine ae (ah (am rfl (bJ rfl) ?_))
 rintro _ _ ⟨b3, rfl, rfl⟩
 refine aa rfl (ai rfl) (ag (ab (ae (aW (ae (ah (aa rfl (ac rfl) (am rfl (bn call74 rfl (wE b es)) ?_))))))))
 rintro _ B_ ⟨rfl, hB_⟩
 obtain rfl := hB_.symm
 refine aa rfl (ai rfl) (ag (ab ?_))
 refine aw rfl ?_ ?_
 intro c1
 exact absurd c1 (by decide)
 intro c1
 refine ae ?_
 refine sh (b := b) fun a c => ?_
 refine ah (aa rfl (ac rfl) (aa rfl (aF rfl) ?_))
 refine aa rfl (al rfl mh rfl ko rfl (by first | exact Nat.zero_add _ | rfl)) ?_
 refine aa rfl (ao tj rfl (aA rfl)) ?_
 refine aa rfl (bu nQ rfl) (aa rfl (cK rfl rfl) (aa rfl (ai rfl) (ag (ab ?_))))
 refine aw rfl ?_ ?_
 intro c3
 omega
 intro c3
 refine aB (bH (ab (ae ?_)))
 refine cA [(b3, 0, _)] 11 cz rfl (aK aJ) (fun hS => ?_)
 refine aj 0 rfl rfl (by kernel_rfl) (by kernel_rfl) (by kernel_rfl) rfl hS (ac rfl) ?_
 refine aj 1 rfl rfl (by kernel_rfl) (by kernel_rfl) (by kernel_rfl) rfl hS (ac rfl) ?_
 refine aj 2 rfl rfl (by kernel_rfl) (by kernel_rfl) (by kernel_rfl) rfl hS (aF rfl) ?_
 refine aj 3 rfl rfl (by kernel_rfl) (by kernel_rfl) (by kernel_rfl) rfl hS (al rfl mh rfl ko rfl (by first | exact Nat.zero_add _ | rfl)) ?_
 refine aj 5 rfl rfl (by kernel_rfl) (by kernel_rfl) (by kernel_rfl) rfl hS (cV isAgg407 y8 rfl (dm (k := 0) rfl) (CS x)) ?_
 refine io (is := [4, 6]) (by kernel_rfl) rfl ⟨?_, ?_, trivial⟩
 skip
 refine eD rfl rfl (eC (ao tj rfl (aA rfl))) rfl ?_; clear hS
 rintro _ _ ⟨rfl, rfl⟩
 refine ⟨(aK aJ), fun hS => ?_⟩
 refine bA 6 (by kernel_rfl) rfl rfl (g5 nQ y8 y9 rfl (eN rfl rfl fZ) rfl (by decide) (by decide) (by decide)) rfl ?_; clear hS
 rintro _ _ ⟨b2, rfl, rfl⟩
 refine ⟨(aK aJ), fun hS => ?_⟩
 refine bA 7 (by kernel_rfl) rfl rfl (dP (sz := 21) (by_ := 96) (info := Tryz.t407) nQ (by kernel_rfl) rfl rfl rfl rfl (by decide) rfl rfl dQ rfl rfl (by simp only [maxLen]; omega) (by omega)) rfl ?_; clear hS
 rintro _ _ ⟨a3, c3, rfl, rfl⟩
 refine ⟨(aK aJ), fun hS => ?_⟩
 refine aj 8 rfl rfl (by kernel_rfl) (by kernel_rfl) (by kernel_rfl) rfl hS (aF rfl) ?_
 refine aj 9 rfl rfl (by kernel_rfl) (by kernel_rfl) (by kernel_rfl) rfl hS (al rfl mh rfl ko rfl (by first | exact Nat.zero_add _ | rfl)) ?_
 refine bA 10 (by kernel_rfl) rfl rfl (cm ko rfl rfl rfl (Nat.le_of_ble_eq_true rfl) SetL.eq) rfl ?_; clear hS
 rintro _ _ rfl
 refine ⟨(aK aJ), fun hS => ?_⟩
 refine bL (by kernel_rfl) ?_; clear hS
 refine ab (ae (ah (aa rfl (ai rfl) (ag (ab (av (au (.inl rfl) (.cons (ak rfl) .nil) ?_)))))))
 exact ⟨_, ⟨rfl, rfl⟩, pi (es := es ++ [x]) (by simp) he⟩
 skip
 refine eD rfl rfl (g5 nQ y8 y9 rfl (eN rfl rfl fZ) rfl (by decide) (by decide) (by decide)) rfl ?_; clear hS
 rintro _ _ ⟨b2, rfl, rfl⟩
 refine ⟨(aK aJ), fun hS => ?_⟩
 refine bA 4 (by kernel_rfl) rfl rfl (eC (ao tj rfl (aA rfl))) rfl ?_; clear hS
 rintro _ _ ⟨rfl, rfl⟩
 refine ⟨(aK aJ), fun hS => ?_⟩
 refine bA 7 (by kernel_rfl) rfl rfl (dP (sz := 21) (by_ := 96) (info := Tryz.t407) nQ (by kernel_rfl) rfl rfl rfl rfl (by decide) rfl rfl dQ rfl rfl (by simp only [maxLen]; omega) (by omega)) rfl ?_; clear hS
 rintro _ _ ⟨a3, c3, rfl, rfl⟩
 refine ⟨(aK aJ), fun hS => ?_⟩
 refine aj 8 rfl rfl (by kernel_rfl) (by kernel_rfl) (by kernel_rfl) rfl hS (aF rfl) ?_
 refine aj 9 rfl rfl (by kernel_rfl) (by kernel_rfl) (by kernel_rfl) rfl hS (al rfl mh rfl ko rfl (by first | exact Nat.zero_add _ | rfl)) ?_
 refine bA 10 (by kernel_rfl) rfl rfl (cm ko rfl rfl rfl (Nat.le_of_ble_eq_true rfl) SetL.eq) rfl ?_; clear hS
 rintro _ _ rfl
 refine ⟨(aK aJ), fun hS => ?_⟩
 refine bL (by kernel_rfl) ?_; clear hS
 refine ab (ae (ah (aa rfl (ai rfl) (ag (ab (av (au (.inl rfl) (.cons (ak rfl) .nil) ?_)))))))
 exact ⟨_, ⟨rfl, rfl⟩, pi (es := es ++ [x]) (by simp) he⟩
abbrev ia (cats who quota : Int) : Obj := ax [du, .int .i64 0, .int .i64 0, .int .i64 0, .int .i64 cats, .int .i64 who, .int .i64 quota, .bool true] 129
theorem CY (cats who quota : Int) (h1 : 0 ≤ cats ∧ cats ≤ 8) (h2 : -1 ≤ who ∧ who < 4) (h3 : 0 ≤ quota ∧ quota ≤ 64) : aC Tryz.prog W0 51 [.int .i64 cats, .int .i64 who, .int .i64 quota] R (fun v B => ∃ b, v = .tuple #[.pointer (some ⟨b, 0, none⟩), .int .i64 0] ∧ B = pt b (ia cats who quota) :: R) := by
 refine aG func51 ntmps51 rfl rfl ?_
 refine ae (ah (aa rfl (ai rfl) (aa rfl (ai rfl) (ag (ab (ae (aW (ae (aW (aW (aW (ae (ae (ae (ae (ah (aa rfl (ac rfl) (aa rfl (b0 rfl rfl) (aa rfl (ai rfl) (ag (ab ?_)))))))))))))))))))))
 refine aw rfl ?_ ?_
 intro c1
 omega
 intro c1
 refine ah (aa rfl (ac rfl) (aa rfl (cy rfl rfl) (aa rfl (ai rfl) (ag (ab ?_)))))
 refine aw rfl ?_ ?_
 intro c2
 omega
 intro c2
 refine aB (ab (ae (ae (ae (ah (aa rfl (ac rfl) (aa rfl (b0 rfl rfl) (aa rfl (ai rfl) (ag (ab ?_))))))))))
 refine aw rfl ?_ ?_
 intro c3
 omega
 intro c3
 refine ah (aa rfl (ac rfl) (aa rfl (cK rfl rfl) (aa rfl (ai rfl) (ag (ab ?_)))))
 refine aw rfl ?_ ?_
 intro c4
 omega
 intro c4
 refine aB (ab (ae (ae (ah (aa rfl (ac rfl) (aa rfl (b0 rfl rfl) (aa rfl (ai rfl) (ag (ab ?_)))))))))
 refine aw rfl ?_ ?_
 intro c5
 omega
 intro c5
 refine ah (aa rfl (ac rfl) (aa rfl (cy rfl rfl) (aa rfl (ai rfl) (ag (ab ?_)))))
 refine aw rfl ?_ ?_
 intro c6
 omega
 intro c6
 refine aB (ab (cj (eW rfl (eW rfl (eW rfl (bi (co (ab (ae (ah (aa rfl (ac rfl) (aa rfl (ac rfl) (aa rfl (ac rfl) (aa rfl (bY ya zeroValue129 (aH sizeOf127 (aH az (aH az (aH az (aH cB bX))))) (bq rfl az rfl rfl (Nat.le_of_ble_eq_true rfl) SetL.eq (bq rfl az rfl rfl (Nat.le_of_ble_eq_true rfl) SetL.eq (bq rfl az rfl rfl (Nat.le_of_ble_eq_true rfl) SetL.eq (bq rfl cB rfl rfl (Nat.le_of_ble_eq_true rfl) SetL.eq bW))))) ?_))))))))))))))
 refine am rfl (bJ rfl) ?_
 rintro _ _ ⟨b1, rfl, rfl⟩
 refine aa rfl (ai rfl) (aa rfl (ai rfl) (ag (ab (av (au (.inl rfl) (.cons (ak rfl) (.cons (ak rfl) .nil)) ?_)))))
 exact ⟨_, ⟨_, rfl, rfl⟩, ent_refl⟩
end
section
structure It where
  kr : Int
  kp : Int
  ep : Int
  ef : Int
  er : Int
  u : Int
deriving DecidableEq
instance : Inhabited It := ⟨⟨0, 0, 0, 0, 0, 0⟩⟩
def It.key (x : It) : Int × Int := (x.kr, x.kp)
def It.ent (x : It) : Int × Int × Int := (x.ep, x.ef, x.er)
def eB (x : It) : List Value := [.int .i64 x.kr, .int .i64 x.kp, .int .i64 x.ep, .int .i64 x.ef, .int .i64 x.er, .int .i64 x.u]
theorem ka (x : It) : (eB x).length = 6 := rfl
def us (l : List It) (i : Nat) : Int := (l.getD i default).u
theorem qG {l : List It} {i : Nat} (h : i < l.length) : us l i = l[i].u := by simp [us, List.getD, h]
def swapL (l : List It) (i j : Nat) : List It := (l.set i (l.getD j default)).set j (l.getD i default)
theorem qH (l : List It) (i j : Nat) : (swapL l i j).length = l.length := by simp [swapL]
theorem kG {l : List It} {i j : Nat} (hi : i < l.length) (hj : j < l.length) (x : Nat) : (swapL l i j).getD x default = if x = i then l.getD j default else if x = j then l.getD i default else l.getD x default := by
 simp only [swapL, List.getD_eq_getElem?_getD, List.getElem?_set, List.length_set]
 by_cases h1 : x = j
 subst h1
 by_cases h2 : x = i
 subst h2; simp [hj]
 simp [hj, h2]
 have h1' : ¬ j = x := fun h => h1 h.symm
 by_cases h2 : x = i
 subst h2; simp [h1', hi]
 have h2' : ¬ i = x := fun h => h2 h.symm
 simp [h1, h1', h2, h2']
theorem jC {l : List It} {i j : Nat} (hi : i < l.length) (hj : j < l.length) (x : Nat) : us (swapL l i j) x = if x = i then us l j else if x = j then us l i else us l x := by
 unfold us; rw [kG hi hj]; split
 rfl
 split <;> rfl
theorem qI {α : Type} : ∀ (l : List α) (i j : Nat) (hi : i < l.length) (hj : j < l.length), ((l.set i l[j]).set j l[i]).Perm l := by
 intro l i j hi hj
 have : ((l.set i l[j]).set j l[i]).Perm l := List.set_set_perm hi hj
 exact this
theorem kI {l : List It} {i j : Nat} (hi : i < l.length) (hj : j < l.length) : (swapL l i j).Perm l := by
 have := qI l i j hi hj
 simpa [swapL, List.getD, hi, hj] using this
def Heap (l : List It) (n : Nat) : Prop := ∀ c, c < n → 0 < c → us l ((c - 1) / 2) ≤ us l c
def gP (l : List It) (i n : Nat) : Prop := ∀ c, c < n → 0 < c → (c ≠ i → (c - 1) / 2 ≠ i → us l ((c - 1) / 2) ≤ us l c) ∧ ((c - 1) / 2 = i → 0 < i → us l ((i - 1) / 2) ≤ us l c)
def Up (l : List It) (j n : Nat) : Prop := ∀ c, c < n → 0 < c → (c ≠ j → us l ((c - 1) / 2) ≤ us l c) ∧ ((c - 1) / 2 = j → 0 < j → us l ((j - 1) / 2) ≤ us l c)
theorem qJ {l : List It} {i j n : Nat} (h : gP l i n) (hn : n ≤ l.length) (hj : j < n) (hc : (j - 1) / 2 = i) (h0 : 0 < j) (hlt : us l j < us l i)
    (hmin : ∀ c, c < n → 0 < c → (c - 1) / 2 = i → us l j ≤ us l c) : gP (swapL l i j) j n ∧ us (swapL l i j) ((j - 1) / 2) ≤ us (swapL l i j) j := by
 have hij : i < j := by omega
 have sw := jC (l := l) (i := i) (j := j) (by omega) (by omega)
 refine ⟨fun c hcn hc0 => ⟨fun h1 h2 => ?_, fun h1 h2 => ?_⟩, ?_⟩
 rw [sw, sw]
 by_cases e1 : c = i
 subst e1
 have := (h j hj h0).2 hc (by omega)
 rw [if_neg (by omega), if_neg (by omega), if_pos rfl]; exact this
 by_cases e2 : (c - 1) / 2 = i
 rw [if_pos e2, if_neg e1, if_neg h1]; exact hmin c hcn hc0 e2
 rw [if_neg e2, if_neg h2, if_neg e1, if_neg h1]; exact (h c hcn hc0).1 e1 e2
 rw [hc, sw, sw, if_pos rfl, if_neg (by omega), if_neg (by omega)]
 rw [← h1]; exact (h c hcn hc0).1 (by omega) (by omega)
 rw [hc, sw, sw, if_pos rfl, if_neg (by omega), if_pos rfl]; omega
theorem mR {l : List It} {i n : Nat} (h : gP l i n) (hmin : ∀ c, c < n → 0 < c → (c - 1) / 2 = i → us l i ≤ us l c) (hp : 0 < i → us l ((i - 1) / 2) ≤ us l i) : Heap l n := fun c hc h0 => by
 by_cases e1 : (c - 1) / 2 = i
 rw [e1]; exact hmin c hc h0 e1
 by_cases e2 : c = i
 subst e2; exact hp h0
 exact (h c hc h0).1 e2 e1
theorem qK {l : List It} {j n : Nat} (h : Up l j n) (hn : n ≤ l.length) (hj : j < n) (h0 : 0 < j) (hlt : us l j < us l ((j - 1) / 2)) : Up (swapL l ((j - 1) / 2) j) ((j - 1) / 2) n := by
 have sw := jC (l := l) (i := (j - 1) / 2) (j := j) (by omega) (by omega)
 intro c hc hc0
 refine ⟨fun h1 => ?_, fun h1 h2 => ?_⟩
 rw [sw, sw]
 by_cases e1 : c = j
 subst e1; rw [if_pos rfl, if_neg (by omega), if_pos rfl]; omega
 by_cases e2 : (c - 1) / 2 = (j - 1) / 2
 rw [if_pos e2, if_neg (by omega), if_neg e1]
 have := (h c hc hc0).1 e1; rw [e2] at this; omega
 by_cases e3 : (c - 1) / 2 = j
 rw [if_neg e2, if_pos e3, if_neg h1, if_neg e1]; exact (h c hc hc0).2 e3 h0
 rw [if_neg e2, if_neg e3, if_neg h1, if_neg e1]; exact (h c hc hc0).1 e1
 rw [sw, sw, if_neg (by omega), if_neg (by omega)]
 have hp := (h ((j - 1) / 2) (by omega) h2).1 (by omega)
 by_cases e1 : c = j
 subst e1; rw [if_neg (by omega), if_pos rfl]; exact hp
 rw [if_neg (by omega), if_neg e1]
 have := (h c hc hc0).1 e1; rw [h1] at this; omega
theorem mT {l : List It} {j n : Nat} (h : Up l j n) (hp : 0 < j → us l ((j - 1) / 2) ≤ us l j) : Heap l n := fun c hc h0 => by
 by_cases e : c = j
 subst e; exact hp h0
 exact (h c hc h0).1 e
theorem qL {l : List It} {n : Nat} (h : Heap l n) : ∀ c, c < n → us l 0 ≤ us l c := by
 intro c
 induction c using Nat.strongRecOn with
 | _ c ih =>
  intro hc
  by_cases h0 : c = 0
  subst h0; omega
  have := h c hc (by omega)
  have := ih ((c - 1) / 2) (by omega) (by omega)
  omega
theorem mV {l l' : List It} {n : Nat} (h : ∀ i, i < n → l.getD i default = l'.getD i default) {i : Nat} (hi : i < n) : us l i = us l' i := by unfold us; rw [h i hi]
theorem qM {l l' : List It} {n : Nat} (h : ∀ i, i < n → l.getD i default = l'.getD i default) (k : Heap l n) : Heap l' n := fun c hc h0 => by
 rw [← mV h hc, ← mV h (i := (c - 1) / 2) (by omega)]; exact k c hc h0
structure Down (its l : List It) (i0 n : Nat) (moved : Bool) : Prop where
  perm : l.Perm its
  tail : ∀ x, n ≤ x → l.getD x default = its.getD x default
  no : moved = false → l = its ∧ ∀ c, c < n → 0 < c → (c - 1) / 2 = i0 → us its i0 ≤ us its c
  yes : moved = true → Heap l n
theorem mW {l its : List It} {i i0 n : Nat} (hp : l.Perm its) (hi : i0 ≤ i) (hH : gP l i n) (ht : ∀ x, n ≤ x → l.getD x default = its.getD x default) (h0 : i = i0 → l = its)
    (hg : i0 < i → us l ((i - 1) / 2) ≤ us l i) (hmin : ∀ c, c < n → 0 < c → (c - 1) / 2 = i → us l i ≤ us l c) : Down its l i0 n (decide (i0 < i)) :=
  ⟨hp, ht, fun h => by
 have : i = i0 := by simp at h; omega
 subst this
 obtain rfl := h0 rfl
 exact ⟨rfl, hmin⟩, fun h => by
 have : i0 < i := by simpa using h
 exact mR hH hmin fun _ => hg this⟩
end
section
open Go.RowKit
def eo (b : Nat) (x : List It × List Value) : HP := chk (fun C => ∃ a c, C = [pt b (ax (.slice a x.1.length c :: x.2) 525), osl 518 6 (.slice a x.1.length c) (x.1.flatMap eB)])
section
variable {P : Program} {W0 : World} {R A : List HP} {b : Nat} {its : List It} {tl : List Value} {f : FuncId} {args : List Value} {Post : Value → List HP → Prop}
theorem si (h : ∀ a c, aC P W0 f args (pt b (ax (.slice a its.length c :: tl) 525) :: osl 518 6 (.slice a its.length c) (its.flatMap eB) :: R) Post) : aC P W0 f args (eo b (its, tl) :: R) Post :=
  mG fun C hC => by obtain ⟨a, c, rfl⟩ := hC; exact h a c
theorem sj {a : Option Addr} {c n : Nat} {R1 R2 B : List HP} [h1 : Tk pt b A (ax (.slice a n c :: tl) 525) R1] [h2 : Tk (osl 518 6) (.slice a n c) R1 (its.flatMap eB) R2] (hn : n = its.length) [k : Ent R2 B] : Ent A (eo b (its, tl) :: B) := by
 subst hn
 exact (Ent.ofPerm (h1.perm.trans (h2.perm.cons _))).trans ((Ent.cons (Ent.cons k)).trans (eZ (R := B) (C := [_, _]) ⟨a, c, rfl⟩))
theorem sk (h0 : its ≠ []) (h : ∀ g c sp, its.length ≤ c → c ≤ maxLen → (its.flatMap eB ++ sp).length = c * 6 → aC P W0 f args (pt b (ax (.slice (some ⟨g, 0, none⟩) its.length c :: tl) 525) :: pt g (ax (its.flatMap eB ++ sp) 518) :: R) Post) : aC P W0 f args (eo b (its, tl) :: R) Post :=
  si fun a c => mH (List.Perm.swap _ _ _) (ub (fun h1 h2 => by
      have := dr ka its
      rw [h2] at this
      exact absurd (List.eq_nil_of_length_eq_zero (by simp at this; omega)) h0)
    (fun g n cap sp h1 h2 h3 h4 h5 => by
      cases h1
      exact mH (List.Perm.swap _ _ _) (h g _ sp h2 h3 h5)))
theorem pj {g c n : Nat} {xs sp : List Value} {R1 R2 B : List HP} [h1 : Tk pt b A (ax (.slice (some ⟨g, 0, none⟩) n c :: tl) 525) R1] [h2 : Tk pt g R1 (ax (xs ++ sp) 518) R2] (hx : xs = its.flatMap eB) (hn : n = its.length) (hc : n ≤ c) (hm : c ≤ maxLen) (hl : (xs ++ sp).length = c * 6) [k : Ent R2 B] : Ent A (eo b (its, tl) :: B) := by
 subst hn
 subst hx
 have e : Ent R1 (osl 518 6 (.slice (some ⟨g, 0, none⟩) its.length c) (its.flatMap eB) :: B) := fa hc hm (dr ka its) hl
 exact (Ent.ofPerm h1.perm).trans ((Ent.cons e).trans (eZ (R := B) (C := [_, _]) ⟨_, c, rfl⟩))
end
theorem wF (its : List It) (sp : List Value) (i j : Nat) (hi : i < its.length) (hj : j < 6) : (its.flatMap eB ++ sp)[i * 6 + j]? = (eB (its.getD i default))[j]? := by
 rw [jz ka its i j sp hi hj]; simp [List.getD, hi]
theorem nv (its : List It) (sp : List Value) (i : Nat) (hi : i < its.length) : ((its.flatMap eB ++ sp).drop (i * 6)).take 6 = eB (its.getD i default) := by
 rw [mB ka its i sp hi]; simp [List.getD, hi]
theorem pn (its : List It) (sp : List Value) (i : Nat) (x : It) (hi : i < its.length) : setR (its.flatMap eB ++ sp) (i * 6) (eB x) = (its.set i x).flatMap eB ++ sp := oo ka its i x sp hi
theorem pp (its : List It) (sp : List Value) (i : Nat) (hi : i < its.length) : i * 6 + 6 ≤ (its.flatMap eB ++ sp).length := by
 rw [List.length_append, dr ka]; omega
theorem wG {its : List It} {i : Nat} (h : i < its.length) : its ≠ [] := fun e => by rw [e] at h; simp at h
theorem wH (W0 : World) (R : List HP) (b : Nat) (its : List It) (tl : List Value) :
    aC Tryz.prog W0 492 [.pointer (some ⟨b, 0, none⟩)] (eo b (its, tl) :: R) (fun v B => v = .int .i64 (its.length : Nat) ∧ B = eo b (its, tl) :: R) := by
 refine si fun a c => ?_
 refine aG func492 ntmps492 rfl rfl ?_
 refine ae (ah (aa rfl (ai rfl) (ag (ab (ae (ah (aa rfl (ac rfl) (aa rfl (aF rfl) ?_))))))))
 refine aa rfl (al rfl iE rfl gK rfl (by first | exact Nat.zero_add _ | rfl)) ?_
 refine aa rfl (ao jd rfl (aA rfl)) ?_
 refine aa rfl (bu gY rfl) (aa rfl (ai rfl) (ag (ab (av (au (.inl rfl) (.cons (ak rfl) .nil) ?_)))))
 exact ⟨_, ⟨rfl, rfl⟩, sj rfl⟩
theorem so (W0 : World) (R : List HP) (b : Nat) (its : List It) (tl : List Value) (i k : Nat) (hi : i < its.length) (hk : k < its.length) :
    aC Tryz.prog W0 505 [.pointer (some ⟨b, 0, none⟩), .int .i64 i, .int .i64 k] (eo b (its, tl) :: R) (fun v B => v = .bool (decide (us its i < us its k)) ∧ B = eo b (its, tl) :: R) := by
 refine sk (wG hi) fun g c sp h1 h2 h3 => ?_
 refine aG func505 ntmps505 rfl rfl ?_
 refine ae (ah (aa rfl (ai rfl) (ag (ab (ae ?_)))))
 refine cA [(b, 0, _), (g, 0, _)] 18 cz rfl (aK (aK aJ)) (fun hS => ?_)
 refine aj 0 rfl rfl (by kernel_rfl) (by kernel_rfl) (by kernel_rfl) rfl hS (ac rfl) ?_
 refine aj 1 rfl rfl (by kernel_rfl) (by kernel_rfl) (by kernel_rfl) rfl hS (aF rfl) ?_
 refine aj 2 rfl rfl (by kernel_rfl) (by kernel_rfl) (by kernel_rfl) rfl hS (al rfl iE rfl gK rfl (by first | exact Nat.zero_add _ | rfl)) ?_
 refine aj 3 rfl rfl (by kernel_rfl) (by kernel_rfl) (by kernel_rfl) rfl hS (ao jd rfl (by first | exact aD (k := 0) rfl rfl | exact aD (k := 1) rfl rfl)) ?_
 refine aj 4 rfl rfl (by kernel_rfl) (by kernel_rfl) (by kernel_rfl) rfl hS (ac rfl) ?_
 refine aj 5 rfl rfl (by kernel_rfl) (by kernel_rfl) (by kernel_rfl) rfl hS (ce gY fp rfl rfl rfl hi (by first | exact Nat.zero_add _ | rfl)) ?_
 refine aj 6 rfl rfl (by kernel_rfl) (by kernel_rfl) (by kernel_rfl) rfl hS (al rfl tm rfl az rfl (by first | exact Nat.zero_add _ | rfl)) ?_
 refine aj 7 rfl rfl (by kernel_rfl) (by kernel_rfl) (by kernel_rfl) rfl hS (ao aQ rfl (aD (k := 1) rfl ((wF its sp i 5 hi (by decide)).trans rfl))) ?_
 refine aj 8 rfl rfl (by kernel_rfl) (by kernel_rfl) (by kernel_rfl) rfl hS (ac rfl) ?_
 refine aj 9 rfl rfl (by kernel_rfl) (by kernel_rfl) (by kernel_rfl) rfl hS (aF rfl) ?_
 refine aj 10 rfl rfl (by kernel_rfl) (by kernel_rfl) (by kernel_rfl) rfl hS (al rfl iE rfl gK rfl (by first | exact Nat.zero_add _ | rfl)) ?_
 refine aj 11 rfl rfl (by kernel_rfl) (by kernel_rfl) (by kernel_rfl) rfl hS (ao jd rfl (by first | exact aD (k := 0) rfl rfl | exact aD (k := 1) rfl rfl)) ?_
 refine aj 12 rfl rfl (by kernel_rfl) (by kernel_rfl) (by kernel_rfl) rfl hS (ac rfl) ?_
 refine aj 13 rfl rfl (by kernel_rfl) (by kernel_rfl) (by kernel_rfl) rfl hS (ce gY fp rfl rfl rfl hk (by first | exact Nat.zero_add _ | rfl)) ?_
 refine aj 14 rfl rfl (by kernel_rfl) (by kernel_rfl) (by kernel_rfl) rfl hS (al rfl tm rfl az rfl (by first | exact Nat.zero_add _ | rfl)) ?_
 refine aj 15 rfl rfl (by kernel_rfl) (by kernel_rfl) (by kernel_rfl) rfl hS (ao aQ rfl (aD (k := 1) rfl ((wF its sp k 5 hk (by decide)).trans rfl))) ?_
 refine aj 16 rfl rfl (by kernel_rfl) (by kernel_rfl) (by kernel_rfl) rfl hS (b0 rfl rfl) ?_
 refine aj 17 rfl rfl (by kernel_rfl) (by kernel_rfl) (by kernel_rfl) rfl hS (ai rfl) ?_
 refine bL (by kernel_rfl) ?_; clear hS
 refine ab (av (au (.inl rfl) (.cons (ak rfl) .nil) ?_))
 exact ⟨_, ⟨rfl, rfl⟩, pj rfl rfl h1 h2 h3⟩
theorem sq (W0 : World) (R : List HP) (b : Nat) (its : List It) (tl : List Value) (i k : Nat) (hi : i < its.length) (hk : k < its.length) :
    aC Tryz.prog W0 508 [.pointer (some ⟨b, 0, none⟩), .int .i64 i, .int .i64 k] (eo b (its, tl) :: R) (fun v B => v = .tuple #[] ∧ B = eo b (swapL its i k, tl) :: R) := by
 refine sk (wG hi) fun g c sp h1 h2 h3 => ?_
 refine aG func508 ntmps508 rfl rfl ?_
 refine cA [(b, 0, _)] 28 cz rfl (aK aJ) (fun hS => ?_)
 refine aj 0 rfl rfl (by kernel_rfl) (by kernel_rfl) (by kernel_rfl) rfl hS (ac rfl) ?_
 refine aj 1 rfl rfl (by kernel_rfl) (by kernel_rfl) (by kernel_rfl) rfl hS (aF rfl) ?_
 refine aj 2 rfl rfl (by kernel_rfl) (by kernel_rfl) (by kernel_rfl) rfl hS (al rfl iE rfl gK rfl (by first | exact Nat.zero_add _ | rfl)) ?_
 refine aj 3 rfl rfl (by kernel_rfl) (by kernel_rfl) (by kernel_rfl) rfl hS (ao jd rfl (aD (k := 0) rfl rfl)) ?_
 refine aj 4 rfl rfl (by kernel_rfl) (by kernel_rfl) (by kernel_rfl) rfl hS (ac rfl) ?_
 refine aj 5 rfl rfl (by kernel_rfl) (by kernel_rfl) (by kernel_rfl) rfl hS (ac rfl) ?_
 refine aj 6 rfl rfl (by kernel_rfl) (by kernel_rfl) (by kernel_rfl) rfl hS (aF rfl) ?_
 refine aj 7 rfl rfl (by kernel_rfl) (by kernel_rfl) (by kernel_rfl) rfl hS (al rfl iE rfl gK rfl (by first | exact Nat.zero_add _ | rfl)) ?_
 refine aj 8 rfl rfl (by kernel_rfl) (by kernel_rfl) (by kernel_rfl) rfl hS (ao jd rfl (aD (k := 0) rfl rfl)) ?_
 refine aj 9 rfl rfl (by kernel_rfl) (by kernel_rfl) (by kernel_rfl) rfl hS (ac rfl) ?_
 refine aj 10 rfl rfl (by kernel_rfl) (by kernel_rfl) (by kernel_rfl) rfl hS (ac rfl) ?_
 refine aj 11 rfl rfl (by kernel_rfl) (by kernel_rfl) (by kernel_rfl) rfl hS (aF rfl) ?_
 refine aj 12 rfl rfl (by kernel_rfl) (by kernel_rfl) (by kernel_rfl) rfl hS (al rfl iE rfl gK rfl (by first | exact Nat.zero_add _ | rfl)) ?_
 refine aj 13 rfl rfl (by kernel_rfl) (by kernel_rfl) (by kernel_rfl) rfl hS (ao jd rfl (aD (k := 0) rfl rfl)) ?_
 refine aj 14 rfl rfl (by kernel_rfl) (by kernel_rfl) (by kernel_rfl) rfl hS (ac rfl) ?_
 refine aj 15 rfl rfl (by kernel_rfl) (by kernel_rfl) (by kernel_rfl) rfl hS (ce gY fp rfl rfl rfl hk (by first | exact Nat.zero_add _ | rfl)) ?_
 refine aj 17 rfl rfl (by kernel_rfl) (by kernel_rfl) (by kernel_rfl) rfl hS (ac rfl) ?_
 refine aj 18 rfl rfl (by kernel_rfl) (by kernel_rfl) (by kernel_rfl) rfl hS (aF rfl) ?_
 refine aj 19 rfl rfl (by kernel_rfl) (by kernel_rfl) (by kernel_rfl) rfl hS (al rfl iE rfl gK rfl (by first | exact Nat.zero_add _ | rfl)) ?_
 refine aj 20 rfl rfl (by kernel_rfl) (by kernel_rfl) (by kernel_rfl) rfl hS (ao jd rfl (aD (k := 0) rfl rfl)) ?_
 refine aj 21 rfl rfl (by kernel_rfl) (by kernel_rfl) (by kernel_rfl) rfl hS (ac rfl) ?_
 refine aj 22 rfl rfl (by kernel_rfl) (by kernel_rfl) (by kernel_rfl) rfl hS (ce gY fp rfl rfl rfl hi (by first | exact Nat.zero_add _ | rfl)) ?_
 refine io (is := [16, 23]) (by kernel_rfl) rfl ⟨?_, ?_, trivial⟩
 skip
 refine eD rfl rfl (eC (cV nR fp rfl (fN (nv its sp k hk) rfl) rfl)) rfl ?_; clear hS
 rintro _ _ ⟨rfl, rfl⟩
 refine ⟨(aK aJ), fun hS => ?_⟩
 refine bA 23 (by kernel_rfl) rfl rfl (eC (cV nR fp rfl (fN (nv its sp i hi) rfl) rfl)) rfl ?_; clear hS
 rintro _ _ ⟨rfl, rfl⟩
 refine ⟨(aK aJ), fun hS => ?_⟩
 refine aj 24 rfl rfl (by kernel_rfl) (by kernel_rfl) (by kernel_rfl) rfl hS (ce gY fp rfl rfl rfl hi (by first | exact Nat.zero_add _ | rfl)) ?_
 refine bA 25 (by kernel_rfl) rfl rfl (iZ fp rfl rfl rfl rfl (pp its sp i hi) (pn its sp i (its.getD k default) hi)) rfl ?_; clear hS
 rintro _ _ rfl
 refine ⟨(aK aJ), fun hS => ?_⟩
 refine aj 26 rfl rfl (by kernel_rfl) (by kernel_rfl) (by kernel_rfl) rfl hS (ce gY fp rfl rfl rfl hk (by first | exact Nat.zero_add _ | rfl)) ?_
 refine bA 27 (by kernel_rfl) rfl rfl (iZ fp rfl rfl rfl rfl (pp (its.set i (its.getD k default)) sp k (by simpa using hk)) (pn (its.set i (its.getD k default)) sp k (its.getD i default) (by simpa using hk))) rfl ?_; clear hS
 rintro _ _ rfl
 refine ⟨(aK aJ), fun hS => ?_⟩
 refine bL (by kernel_rfl) ?_; clear hS
 refine au (.inr rfl) .nil ?_
 exact ⟨_, ⟨rfl, rfl⟩, pj rfl (by simp [swapL]) (by simpa [swapL] using h1) h2 (by simpa [swapL, dr ka] using h3)⟩
 skip
 refine eD rfl rfl (eC (cV nR fp rfl (fN (nv its sp i hi) rfl) rfl)) rfl ?_; clear hS
 rintro _ _ ⟨rfl, rfl⟩
 refine ⟨(aK aJ), fun hS => ?_⟩
 refine bA 16 (by kernel_rfl) rfl rfl (eC (cV nR fp rfl (fN (nv its sp k hk) rfl) rfl)) rfl ?_; clear hS
 rintro _ _ ⟨rfl, rfl⟩
 refine ⟨(aK aJ), fun hS => ?_⟩
 refine aj 24 rfl rfl (by kernel_rfl) (by kernel_rfl) (by kernel_rfl) rfl hS (ce gY fp rfl rfl rfl hi (by first | exact Nat.zero_add _ | rfl)) ?_
 refine bA 25 (by kernel_rfl) rfl rfl (iZ fp rfl rfl rfl rfl (pp its sp i hi) (pn its sp i (its.getD k default) hi)) rfl ?_; clear hS
 rintro _ _ rfl
 refine ⟨(aK aJ), fun hS => ?_⟩
 refine aj 26 rfl rfl (by kernel_rfl) (by kernel_rfl) (by kernel_rfl) rfl hS (ce gY fp rfl rfl rfl hk (by first | exact Nat.zero_add _ | rfl)) ?_
 refine bA 27 (by kernel_rfl) rfl rfl (iZ fp rfl rfl rfl rfl (pp (its.set i (its.getD k default)) sp k (by simpa using hk)) (pn (its.set i (its.getD k default)) sp k (its.getD i default) (by simpa using hk))) rfl ?_; clear hS
 rintro _ _ rfl
 refine ⟨(aK aJ), fun hS => ?_⟩
 refine bL (by kernel_rfl) ?_; clear hS
 refine au (.inr rfl) .nil ?_
 exact ⟨_, ⟨rfl, rfl⟩, pj rfl (by simp [swapL]) (by simpa [swapL] using h1) h2 (by simpa [swapL, dr ka] using h3)⟩
theorem CZ (W0 : World) (R : List HP) (b : Nat) (its : List It) (x : It) (tl : List Value) :
    aC Tryz.prog W0 506 [.pointer (some ⟨b, 0, none⟩)] (eo b (its ++ [x], tl) :: R) (fun v B => v = .iface 518 (.agg (eB x).toArray) ∧ B = eo b (its, tl) :: R) := by
 refine sk (by simp) fun g c sp h1 h2 h3 => ?_
 have hl : (its ++ [x]).length = its.length + 1 := by simp
 rw [hl] at h1 ⊢
 have hg : (its ++ [x]).getD its.length default = x := by simp [List.getD]
 have hr := nv (its ++ [x]) sp its.length (by omega)
 rw [hg] at hr
 have he : (its ++ [x]).flatMap eB ++ sp = its.flatMap eB ++ (eB x ++ sp) := by simp
 refine aG func506 ntmps506 rfl rfl ?_
 refine ae (ah (aa rfl (ai rfl) (ag (ab (ae (ah (aa rfl (ac rfl) (aa rfl (aF rfl) ?_))))))))
 refine aa rfl (al rfl iE rfl gK rfl (by first | exact Nat.zero_add _ | rfl)) ?_
 refine aa rfl (ao jd rfl (aA rfl)) ?_
 refine aa rfl (bu gY rfl) ?_
 refine aa rfl (dX rfl rfl (by rw [aZ (by simp only [maxLen] at h2; omega)]; omega : IntKind.wrap .i64 (((its.length + 1 : Nat) : Int) - 1) = ((its.length : Nat) : Int))) ?_
 refine aa rfl (ai rfl) (ag (ab (ae (ah (aa rfl (ac rfl) (aa rfl (aF rfl) ?_))))))
 refine aa rfl (al rfl iE rfl gK rfl (by first | exact Nat.zero_add _ | rfl)) ?_
 refine aa rfl (ao jd rfl (aA rfl)) ?_
 refine aa rfl (ac rfl) ?_
 refine aa rfl (ce gY fp rfl rfl rfl (by omega) (by first | exact Nat.zero_add _ | rfl)) ?_
 refine aa rfl (cV nR fp rfl (fN hr rfl) rfl) ?_
 refine am rfl (cM yd) ?_
 rintro _ _ ⟨b1, rfl, rfl⟩
 refine bD (cD fp rfl rfl rfl rfl rfl) ?_
 rintro _ _ rfl
 refine ag (ab (ae (ah (aa rfl (ac rfl) (aa rfl (ac rfl) (aa rfl (aF rfl) ?_))))))
 refine aa rfl (al rfl iE rfl gK rfl (by first | exact Nat.zero_add _ | rfl)) ?_
 refine aa rfl (ao jd rfl (aA rfl)) ?_
 refine aa rfl (ac rfl) ?_
 refine aa rfl (kB gY fp rfl rfl rfl (by omega)) ?_
 refine aa rfl (aF rfl) ?_
 refine aa rfl (al rfl iE rfl gK rfl (by first | exact Nat.zero_add _ | rfl)) ?_
 refine bD (cm gK rfl rfl rfl (Nat.le_of_ble_eq_true rfl) SetL.eq) ?_
 rintro _ _ rfl
 refine ag (ab (ae (ah (aa rfl (cp nR fp rfl rfl) ?_))))
 refine aa rfl (kA tm (fun _ h => by cases h) rfl) ?_
 refine aa rfl (ai rfl) (ag (ab (av (au (.inl rfl) (.cons (ak rfl) .nil) ?_))))
 rw [he]
 exact ⟨_, ⟨rfl, rfl⟩, pj (sp := eB x ++ sp) rfl rfl (by omega) h2 (by rw [← he]; exact h3)⟩
theorem D1 (W0 : World) (R : List HP) (b : Nat) (its : List It) (x : It) (tl : List Value) (hn : its.length < 1000) :
    aC Tryz.prog W0 507 [.pointer (some ⟨b, 0, none⟩), .iface 518 (.agg (eB x).toArray)] (eo b (its, tl) :: R) (fun v B => v = .tuple #[] ∧ B = eo b (its ++ [x], tl) :: R) := by
 refine si fun a c => ?_
 have he : its.flatMap eB ++ [eB x].flatten = (its ++ [x]).flatMap eB := by simp
 refine aG func507 ntmps507 rfl rfl ?_
 refine cA [] 12 cz rfl aJ (fun hS => ?_)
 refine aj 0 rfl rfl (by kernel_rfl) (by kernel_rfl) (by kernel_rfl) rfl hS (ac rfl) ?_
 refine aj 1 rfl rfl (by kernel_rfl) (by kernel_rfl) (by kernel_rfl) rfl hS (ac rfl) ?_
 refine aj 2 rfl rfl (by kernel_rfl) (by kernel_rfl) (by kernel_rfl) rfl hS (aF rfl) ?_
 refine aj 3 rfl rfl (by kernel_rfl) (by kernel_rfl) (by kernel_rfl) rfl hS (al rfl iE rfl gK rfl (by first | exact Nat.zero_add _ | rfl)) ?_
 refine aj 5 rfl rfl (by kernel_rfl) (by kernel_rfl) (by kernel_rfl) rfl hS (ac rfl) ?_
 refine aj 6 rfl rfl (by kernel_rfl) (by kernel_rfl) (by kernel_rfl) rfl hS (oq tm (fun _ h => by cases h) rfl) ?_
 refine io (is := [4, 7]) (by kernel_rfl) rfl ⟨?_, ?_, trivial⟩
 skip
 refine eD rfl rfl (eC (ao jd rfl (aA rfl))) rfl ?_; clear hS
 rintro _ _ ⟨rfl, rfl⟩
 refine ⟨aJ, fun hS => ?_⟩
 refine bA 7 (by kernel_rfl) rfl rfl (g5 gY fp yd rfl (eN rfl rfl fZ) rfl (by decide) (by decide) (by decide)) rfl ?_; clear hS
 rintro _ _ ⟨b1, rfl, rfl⟩
 refine ⟨aJ, fun hS => ?_⟩
 refine bA 8 (by kernel_rfl) rfl rfl (dP (sz := 6) (by_ := 48) (info := Tryz.t518) gY (by kernel_rfl) rfl rfl rfl rfl (by decide) rfl rfl dQ rfl rfl (by simp only [maxLen]; omega) (by omega)) rfl ?_; clear hS
 rintro _ _ ⟨a1, c1, rfl, rfl⟩
 refine ⟨aJ, fun hS => ?_⟩
 refine aj 9 rfl rfl (by kernel_rfl) (by kernel_rfl) (by kernel_rfl) rfl hS (aF rfl) ?_
 refine aj 10 rfl rfl (by kernel_rfl) (by kernel_rfl) (by kernel_rfl) rfl hS (al rfl iE rfl gK rfl (by first | exact Nat.zero_add _ | rfl)) ?_
 refine bA 11 (by kernel_rfl) rfl rfl (cm gK rfl rfl rfl (Nat.le_of_ble_eq_true rfl) SetL.eq) rfl ?_; clear hS
 rintro _ _ rfl
 refine ⟨aJ, fun hS => ?_⟩
 refine bL (by kernel_rfl) ?_; clear hS
 refine au (.inr rfl) .nil ?_
 rw [he]
 exact ⟨_, ⟨rfl, rfl⟩, sj (its := its ++ [x]) (by simp)⟩
 skip
 refine eD rfl rfl (g5 gY fp yd rfl (eN rfl rfl fZ) rfl (by decide) (by decide) (by decide)) rfl ?_; clear hS
 rintro _ _ ⟨b1, rfl, rfl⟩
 refine ⟨aJ, fun hS => ?_⟩
 refine bA 4 (by kernel_rfl) rfl rfl (eC (ao jd rfl (aA rfl))) rfl ?_; clear hS
 rintro _ _ ⟨rfl, rfl⟩
 refine ⟨aJ, fun hS => ?_⟩
 refine bA 8 (by kernel_rfl) rfl rfl (dP (sz := 6) (by_ := 48) (info := Tryz.t518) gY (by kernel_rfl) rfl rfl rfl rfl (by decide) rfl rfl dQ rfl rfl (by simp only [maxLen]; omega) (by omega)) rfl ?_; clear hS
 rintro _ _ ⟨a1, c1, rfl, rfl⟩
 refine ⟨aJ, fun hS => ?_⟩
 refine aj 9 rfl rfl (by kernel_rfl) (by kernel_rfl) (by kernel_rfl) rfl hS (aF rfl) ?_
 refine aj 10 rfl rfl (by kernel_rfl) (by kernel_rfl) (by kernel_rfl) rfl hS (al rfl iE rfl gK rfl (by first | exact Nat.zero_add _ | rfl)) ?_
 refine bA 11 (by kernel_rfl) rfl rfl (cm gK rfl rfl rfl (Nat.le_of_ble_eq_true rfl) SetL.eq) rfl ?_; clear hS
 rintro _ _ rfl
 refine ⟨aJ, fun hS => ?_⟩
 refine bL (by kernel_rfl) ?_; clear hS
 refine au (.inr rfl) .nil ?_
 rw [he]
 exact ⟨_, ⟨rfl, rfl⟩, sj (its := its ++ [x]) (by simp)⟩
section
variable (w : World) (a : Addr)
theorem wI : (method (Tryz.prog.types.size + Made.depth) 590 (.pointer (some a)) "Len").run Tryz.prog w = .ok (492, .pointer (some a)) w := by kernel_rfl
theorem sr : (method (Tryz.prog.types.size + Made.depth) 590 (.pointer (some a)) "Less").run Tryz.prog w = .ok (505, .pointer (some a)) w := by kernel_rfl
theorem su : (method (Tryz.prog.types.size + Made.depth) 590 (.pointer (some a)) "Swap").run Tryz.prog w = .ok (508, .pointer (some a)) w := by kernel_rfl
theorem D2 : (method (Tryz.prog.types.size + Made.depth) 590 (.pointer (some a)) "Push").run Tryz.prog w = .ok (507, .pointer (some a)) w := by kernel_rfl
theorem D3 : (method (Tryz.prog.types.size + Made.depth) 590 (.pointer (some a)) "Pop").run Tryz.prog w = .ok (506, .pointer (some a)) w := by kernel_rfl
end
def kT (b : Nat) : Value := .iface 590 (.pointer (some ⟨b, 0, none⟩))
theorem r9 {j : Nat} (h : j < 1000) : IntKind.wrap .i64 (Int.tdiv ((j : Int) - 1) 2) = (((j - 1) / 2 : Nat) : Int) := by
 by_cases h0 : j = 0
 subst h0; decide
 obtain ⟨k, rfl⟩ : ∃ k, j = k + 1 := ⟨j - 1, by omega⟩
 have e : ((k + 1 : Nat) : Int) - 1 = (k : Int) := by omega
 rw [e, Int.tdiv_eq_ediv_of_nonneg (by omega), aZ (by omega)]; simp
theorem mX {l l0 : List It} {i j n : Nat} (hi : i < n) (hj : j < n) (hn : n ≤ l.length) (h : ∀ x, n ≤ x → l.getD x default = l0.getD x default) : ∀ x, n ≤ x → (swapL l i j).getD x default = l0.getD x default := fun x hx => by
 rw [kG (by omega) (by omega), if_neg (by omega), if_neg (by omega)]; exact h x hx
theorem re (W0 : World) (R : List HP) (b : Nat) (its : List It) (tl : List Value) (j n : Nat) (hn : n ≤ its.length) (hN : n < 1000) (hj : j < n) (hU : Up its j n) :
    aC Tryz.prog W0 293 [kT b, .int .i64 j] (eo b (its, tl) :: R) (fun v B => v = .tuple #[] ∧ ∃ its', B = eo b (its', tl) :: R ∧ its'.Perm its ∧ Heap its' n ∧ ∀ x, n ≤ x → its'.getD x default = its.getD x default) := by
 refine aG xA ntmps293 rfl rfl ?_
 refine aW ?_
 refine cT (fun X : List It × Nat => X.1.Perm its ∧ X.2 < n ∧ Up X.1 X.2 n ∧ ∀ x, n ≤ x → X.1.getD x default = its.getD x default) (fun X => [(0, kT b), (1, .int .i64 X.2)]) (fun X => eo b (X.1, tl) :: R) (fun X => X.2) (its, j) ?_ ?_ ?_ ?_
 exact ⟨List.Perm.refl _, hj, hU, fun _ _ => rfl⟩
 · repeat (first | exact aX | refine aV rfl ?_)
 exact inferInstance
 intro ⟨l, j⟩ ⟨hp, hj, hU, ht⟩
 have hlen := hp.length_eq
 simp only at hj hU ht hp hlen ⊢
 refine aW (ae (ah (aa rfl (ac rfl) ?_)))
 refine aa rfl (dX rfl rfl (by first | exact aZ (by omega) | rfl)) ?_
 refine aa rfl (qi rfl rfl (by decide) (r9 (by omega))) ?_
 refine aa rfl (ai rfl) (ag (ab (ae (ae (ah (aa rfl (ac rfl) (aa rfl (ac rfl) (aa rfl (cu rfl rfl) (aa rfl (ac rfl) ?_)))))))))
 refine bC rfl rfl rfl ?_ ?_
 intro g1_4
 refine ap rfl rfl rfl rfl (ap rfl rfl rfl rfl (ap rfl rfl rfl rfl (ap rfl rfl rfl rfl (aa rfl (aY rfl rfl) (ag (ab (cg rfl (cj (bi (eW rfl (bi (co (au (.inr rfl) .nil ?_)))))))))))))
 exact ⟨_, ⟨rfl, l, rfl, hp, mT hU (by intro _; first | omega | (simp at c1; omega)), ht⟩, inferInstance⟩
 intro g1_4
 refine aa rfl (ac rfl) (ar rfl rfl (aa rfl (ac rfl) (ar rfl rfl (aa rfl (ac rfl) (ar rfl rfl ?_)))))
 refine am rfl (fh rfl ((fun w => sr w _)) yf rfl (so W0 _ b l tl j ((j - 1) / 2) (by omega) (by omega))) ?_
 rintro _ B_ ⟨rfl, hB_⟩
 obtain rfl := hB_.symm
 refine ar rfl rfl (aa rfl (bM rfl) (aa rfl (aM rfl rfl) (ag (ab ?_))))
 refine aw rfl ?_ ?_
 intro c1
 refine cj (bi (eW rfl (bi (co (au (.inr rfl) .nil ?_)))))
 exact ⟨_, ⟨rfl, l, rfl, hp, mT hU (by intro _; first | omega | (simp at c1; omega)), ht⟩, inferInstance⟩
 intro c1
 replace c1 : us l j < us l ((j - 1) / 2) := by simpa using c1
 refine aB (ab (ae (ah (aa rfl (ac rfl) (aa rfl (ac rfl) (aa rfl (ac rfl) ?_))))))
 refine am rfl (fh rfl ((fun w => su w _)) yg rfl (sq W0 _ b l tl ((j - 1) / 2) j (by omega) (by omega))) ?_
 rintro _ B_ ⟨rfl, hB_⟩
 obtain rfl := hB_.symm
 refine ag (ab (ah (aa rfl (ac rfl) (aa rfl (ai rfl) (ag (bH (ab ?_)))))))
 refine cG (swapL l ((j - 1) / 2) j, (j - 1) / 2) ?_ ?_ ?_ ?_
 exact ⟨(kI (by omega) (by omega)).trans hp, by show (j - 1) / 2 < n; omega, qK hU (by omega) hj (by omega) c1, mX (by omega) hj (by omega) ht⟩
 show (j - 1) / 2 < j; omega
 · repeat (first | exact aX | refine aV rfl ?_)
 exact inferInstance
theorem rf (W0 : World) (R : List HP) (b : Nat) (its : List It) (tl : List Value) (i0 n : Nat) (hn : n ≤ its.length) (hN : n < 1000) (hi : i0 ≤ n) (hH : gP its i0 n) :
    aC Tryz.prog W0 361 [kT b, .int .i64 i0, .int .i64 n] (eo b (its, tl) :: R) (fun v B => ∃ l m, v = .bool m ∧ B = eo b (l, tl) :: R ∧ Down its l i0 n m) := by
 refine aG func361 ntmps361 rfl rfl ?_
 refine ae (ah (aa rfl (ai rfl) (ag (ab (ae (ah (aa rfl (ac rfl) (aa rfl (ai rfl) (ag (ab (ae (aW ?_))))))))))))
 refine cT (fun X : List It × Nat => X.1.Perm its ∧ i0 ≤ X.2 ∧ gP X.1 X.2 n ∧ (∀ x, n ≤ x → X.1.getD x default = its.getD x default) ∧ (X.2 = i0 → X.1 = its) ∧ (i0 < X.2 → us X.1 ((X.2 - 1) / 2) ≤ us X.1 X.2) ∧ X.2 ≤ n) (fun X => [(0, kT b), (1, .int .i64 i0), (2, .int .i64 n), (7, .int .i64 X.2)]) (fun X => eo b (X.1, tl) :: R) (fun X => n - X.2) (its, i0) ?_ ?_ ?_ ?_
 exact ⟨List.Perm.refl _, Nat.le_refl _, hH, fun _ _ => rfl, fun _ => rfl, fun h => absurd h (Nat.lt_irrefl _), hi⟩
 · repeat (first | exact aX | refine aV rfl ?_)
 exact inferInstance
 intro ⟨l, i⟩ ⟨hp, hi0, hl, ht, he, hg, hin⟩
 have hlen := hp.length_eq
 simp only at hp hi0 hl ht he hg hin hlen ⊢
 refine aW (ae (ah (aa rfl (ac rfl) ?_)))
 refine aa rfl (il rfl rfl (by first | exact aZ (by omega) | rfl)) ?_
 refine aa rfl (bF rfl rfl (by rw [aZ (by omega)]; omega : IntKind.wrap .i64 (2 * (i : Int) + 1) = ((2 * i + 1 : Nat) : Int))) ?_
 refine aa rfl (ai rfl) (ag (ab (ae (ae (ah (aa rfl (ac rfl) (aa rfl (ac rfl) (aa rfl (cK rfl rfl) (aa rfl (ac rfl) ?_)))))))))
 refine bC rfl rfl rfl ?_ ?_
 intro g3_4
 refine ap rfl rfl rfl rfl (aa rfl (aY rfl rfl) (ag (ab (cg rfl (cj (bi (eW rfl (bi (co (ab (ae (ah (aa rfl (ac rfl) (aa rfl (ac rfl) (aa rfl (cy rfl rfl) (aa rfl (ai rfl) (ag (ab (av (au (.inl rfl) (.cons (ak rfl) .nil) ?_))))))))))))))))))))
 refine ⟨_, ⟨l, decide (i0 < i), by simp [cH], rfl, mW hp hi0 hl ht he hg ?_⟩, inferInstance⟩
 first | (intro c hc h0 h1; exfalso; omega) | (intro c hc h0 h1; have := hmin c hc h0 h1; simp at c8; omega)
 intro g3_4
 refine aa rfl (ac rfl) (ar rfl rfl (aa rfl (b0 rfl rfl) (aa rfl (aM rfl rfl) (ag (ab ?_)))))
 refine aw rfl ?_ ?_
 intro c3
 omega
 intro c3
 refine aB (ab (ae (ah (aa rfl (ac rfl) (aa rfl (ai rfl) (ag (ab ?_)))))))
 refine gM (fun j : Nat => (j - 1) / 2 = i ∧ 0 < j ∧ j < n ∧ ∀ c, c < n → 0 < c → (c - 1) / 2 = i → us l j ≤ us l c) (fun j => [(0, kT b), (1, .int .i64 i0), (2, .int .i64 n), (7, .int .i64 i), (9, .int .i64 j)]) (fun j => eo b (l, tl) :: R) ?_ ?_
 skip
 refine ae (ah (aa rfl (ac rfl) ?_))
 refine aa rfl (bF rfl rfl (by rw [aZ (by omega)]; omega : IntKind.wrap .i64 (((2 * i + 1 : Nat) : Int) + 1) = ((2 * i + 2 : Nat) : Int))) ?_
 refine aa rfl (ai rfl) (ag (ab (ae (ah (aa rfl (ac rfl) (aa rfl (ac rfl) (aa rfl (b0 rfl rfl) (aa rfl (ac rfl) ?_))))))))
 refine cJ rfl rfl rfl ?_ ?_
 intro g6_4
 refine aa rfl (ac rfl) (ar rfl rfl (aa rfl (ac rfl) (ar rfl rfl (aa rfl (ac rfl) (ar rfl rfl ?_)))))
 refine am rfl (fh rfl ((fun w => sr w _)) yf rfl (so W0 _ b l tl (2 * i + 2) (2 * i + 1) (by omega) (by omega))) ?_
 rintro _ B_ ⟨rfl, hB_⟩
 obtain rfl := hB_.symm
 refine aa rfl (aY rfl rfl) (ag (ab ?_))
 refine aw rfl ?_ ?_
 intro c6
 refine ah (aa rfl (ac rfl) (aa rfl (ai rfl) (ag (ab ?_))))
 refine dz (2 * i + 2) ?_ ?_ ?_
 refine ⟨by omega, by omega, by omega, fun c hc h0 h1 => ?_⟩
 have : c = 2 * i + 1 ∨ c = 2 * i + 2 := by omega
 rcases this with rfl | rfl <;> omega
 · repeat (first | exact aX | refine aV rfl ?_)
 exact inferInstance
 intro c6
 refine aB (ab ?_)
 refine dz (2 * i + 1) ?_ ?_ ?_
 refine ⟨by omega, by omega, by omega, fun c hc h0 h1 => ?_⟩
 have : c = 2 * i + 1 ∨ c = 2 * i + 2 := by omega
 rcases this with rfl | rfl <;> omega
 · repeat (first | exact aX | refine aV rfl ?_)
 exact inferInstance
 intro g6_4
 refine ap rfl rfl rfl rfl (ap rfl rfl rfl rfl (ap rfl rfl rfl rfl (aa rfl (aM rfl rfl) (ag (ab (eY rfl (aB (ab ?_))))))))
 refine dz (2 * i + 1) ?_ ?_ ?_
 refine ⟨by omega, by omega, by omega, fun c hc h0 h1 => ?_⟩
 have : c = 2 * i + 1 ∨ c = 2 * i + 2 := by omega
 rcases this with rfl | rfl <;> omega
 · repeat (first | exact aX | refine aV rfl ?_)
 exact inferInstance
 intro j ⟨hj, hj0, hjn, hmin⟩
 refine ae (ae (ah (aa rfl (ac rfl) (aa rfl (ac rfl) (aa rfl (ac rfl) ?_)))))
 refine am rfl (fh rfl ((fun w => sr w _)) yf rfl (so W0 _ b l tl j i (by omega) (by omega))) ?_
 rintro _ B_ ⟨rfl, hB_⟩
 obtain rfl := hB_.symm
 refine aa rfl (bM rfl) (ag (ab ?_))
 refine aw rfl ?_ ?_
 intro c8
 refine cj (bi (eW rfl (bi (co (ab (ae (ah (aa rfl (ac rfl) (aa rfl (ac rfl) (aa rfl (cy rfl rfl) (aa rfl (ai rfl) (ag (ab (av (au (.inl rfl) (.cons (ak rfl) .nil) ?_)))))))))))))))
 refine ⟨_, ⟨l, decide (i0 < i), by simp [cH], rfl, mW hp hi0 hl ht he hg ?_⟩, inferInstance⟩
 first | (intro c hc h0 h1; exfalso; omega) | (intro c hc h0 h1; have := hmin c hc h0 h1; simp at c8; omega)
 intro c8
 replace c8 : us l j < us l i := by simpa using c8
 refine aB (ab (ae (ah (aa rfl (ac rfl) (aa rfl (ac rfl) (aa rfl (ac rfl) ?_))))))
 refine am rfl (fh rfl ((fun w => su w _)) yg rfl (sq W0 _ b l tl i j (by omega) (by omega))) ?_
 rintro _ B_ ⟨rfl, hB_⟩
 obtain rfl := hB_.symm
 refine ag (ab (ah (aa rfl (ac rfl) (aa rfl (ai rfl) (ag (bH (ab ?_)))))))
 refine cG (swapL l i j, j) ?_ ?_ ?_ ?_
 have hs := qJ hl (by omega) hjn hj hj0 c8 hmin
 exact ⟨(kI (by omega) (by omega)).trans hp, by show i0 ≤ j; omega, hs.1, mX (by omega) hjn (by omega) ht, by show j = i0 → _; omega, fun _ => hs.2, by show j ≤ n; omega⟩
 show n - j < n - i; omega
 · repeat (first | exact aX | refine aV rfl ?_)
 exact inferInstance
theorem rh {its : List It} {x : It} (h : Heap its its.length) : Up (its ++ [x]) its.length (its.length + 1) := by
 have e : ∀ c, c < its.length → us (its ++ [x]) c = us its c := fun c hc => by
  unfold us; simp only [List.getD_eq_getElem?_getD]; rw [List.getElem?_append_left hc]
 intro c hc h0
 refine ⟨fun h1 => ?_, fun h1 h2 => by omega⟩
 rw [e c (by omega), e _ (by omega)]; exact h c (by omega) h0
theorem heapPush_spec (W0 : World) (R : List HP) (b : Nat) (its : List It) (x : It) (tl : List Value) (hN : its.length < 900) (hh : Heap its its.length) :
    aC Tryz.prog W0 176 [kT b, .iface 518 (.agg (eB x).toArray)] (eo b (its, tl) :: R) (fun v B => v = .tuple #[] ∧ ∃ its', B = eo b (its', tl) :: R ∧ its'.Perm (its ++ [x]) ∧ Heap its' its'.length) := by
 have hl : (its ++ [x]).length = its.length + 1 := by simp
 refine aG xB ntmps176 rfl rfl ?_
 refine ae (ah (aa rfl (ac rfl) (aa rfl (ac rfl) ?_)))
 refine am rfl (fh rfl ((fun w => D2 w _)) call507 rfl (D1 W0 _ b its x tl (by omega))) ?_
 rintro _ B_ ⟨rfl, hB_⟩
 obtain rfl := hB_.symm
 refine ag (ab (ah (aa rfl (ac rfl) (aa rfl (ac rfl) ?_))))
 refine am rfl (fh rfl ((fun w => wI w _)) call492 rfl (wH W0 _ b (its ++ [x]) tl)) ?_
 rintro _ B_ ⟨rfl, hB_⟩
 obtain rfl := hB_.symm
 refine aa rfl (dX rfl rfl (by rw [aZ (by omega)]; omega : IntKind.wrap .i64 (((its ++ [x]).length : Nat) - 1 : Int) = ((its.length : Nat) : Int))) ?_
 refine am rfl (bn xC rfl (re W0 _ b (its ++ [x]) tl its.length (its.length + 1) (by omega) (by omega) (by omega) (rh hh))) ?_
 rintro _ _ ⟨rfl, l', rfl, hp, hh', _⟩
 refine ag (au (.inr rfl) .nil ?_)
 exact ⟨_, ⟨rfl, l', rfl, hp, by rw [hp.length_eq, hl]; exact hh'⟩, inferInstance⟩
theorem ri {l : List It} {n : Nat} (h : l.length = n + 1) : ∃ l' x, l = l' ++ [x] ∧ l'.length = n ∧ x = l.getD n default := by
 have hne : l ≠ [] := fun e => by rw [e] at h; simp at h
 refine ⟨l.dropLast, l.getLast hne, (List.dropLast_concat_getLast hne).symm, by simp [h], ?_⟩
 rw [List.getLast_eq_getElem]
 simp [List.getD, h]
theorem rj {l : List It} {x : It} {n : Nat} (h : Heap (l ++ [x]) n) (hn : n ≤ l.length) : Heap l n :=
  qM (fun i hi => by simp only [List.getD_eq_getElem?_getD]; rw [List.getElem?_append_left (by omega)]) h
theorem heapPop_spec (W0 : World) (R : List HP) (b : Nat) (its : List It) (tl : List Value) (hN : its.length < 900) (h0 : its ≠ []) (hh : Heap its its.length) :
    aC Tryz.prog W0 300 [kT b] (eo b (its, tl) :: R) (fun v B => ∃ x its', v = .iface 518 (.agg (eB x).toArray) ∧ B = eo b (its', tl) :: R ∧ (its' ++ [x]).Perm its ∧ Heap its' its'.length ∧ ∀ y ∈ its, x.u ≤ y.u) := by
 obtain ⟨n, hn⟩ : ∃ n, its.length = n + 1 := ⟨its.length - 1, by have := List.length_pos_iff.2 h0; omega⟩
 have hs : gP (swapL its 0 n) 0 n := fun c hc h0 => ⟨fun h1 h2 => by
  rw [jC (by omega) (by omega), jC (by omega) (by omega), if_neg h2, if_neg h1, if_neg (by omega), if_neg (by omega)]
  exact hh c (by omega) h0, fun _ h => by omega⟩
 have hsl := qH its 0 n
 refine aG func300 ntmps300 rfl rfl ?_
 refine ae (ah (aa rfl (ai rfl) (ag (ab (ae (ah (aa rfl (ac rfl) ?_)))))))
 refine am rfl (fh rfl ((fun w => wI w _)) call492 rfl (wH W0 _ b its tl)) ?_
 rintro _ B_ ⟨rfl, hB_⟩
 obtain rfl := hB_.symm
 refine aa rfl (dX rfl rfl (by rw [aZ (by omega)]; omega : IntKind.wrap .i64 ((its.length : Nat) - 1 : Int) = ((n : Nat) : Int))) ?_
 refine aa rfl (ai rfl) (ag (ab (ae (ah (aa rfl (ac rfl) (aa rfl (ac rfl) ?_))))))
 refine am rfl (fh rfl ((fun w => su w _)) yg rfl (sq W0 _ b its tl 0 n (by omega) (by omega))) ?_
 rintro _ B_ ⟨rfl, hB_⟩
 obtain rfl := hB_.symm
 refine ag (ab (ae (ah (aa rfl (ac rfl) (aa rfl (ac rfl) ?_)))))
 refine am rfl (bn call361 rfl (rf W0 _ b (swapL its 0 n) tl 0 n (by omega) (by omega) (by omega) hs)) ?_
 rintro _ _ ⟨l, m, rfl, rfl, hD⟩
 have hll := hD.perm.length_eq
 obtain ⟨l', x, rfl, hl', hx⟩ := ri (l := l) (n := n) (by omega)
 have hx0 : x = its.getD 0 default := by
  rw [hx, hD.tail n (Nat.le_refl _), kG (by omega) (by omega)]; split
  rename_i e; subst e; rfl
  rw [if_pos rfl]
 have hp : (l' ++ [x]).Perm its := hD.perm.trans (kI (by omega) (by omega))
 have hH : Heap (l' ++ [x]) n := by
  cases m with
  | true => exact hD.yes rfl
  | false =>
   obtain ⟨e, hmin⟩ := hD.no rfl
   rw [e]; exact mR hs hmin (fun h => absurd h (by omega))
 refine ag (ab (ae (ah (aa rfl (ac rfl) ?_))))
 refine am rfl (fh rfl ((fun w => D3 w _)) call506 rfl (CZ W0 _ b l' x tl)) ?_
 rintro _ B_ ⟨rfl, hB_⟩
 obtain rfl := hB_.symm
 refine aa rfl (ai rfl) (ag (ab (av (au (.inl rfl) (.cons (ak rfl) .nil) ?_))))
 refine ⟨_, ⟨x, l', rfl, rfl, hp, by rw [hl']; exact rj hH (by omega), fun y hy => ?_⟩, inferInstance⟩
 obtain ⟨c, hc, rfl⟩ := List.mem_iff_getElem.1 hy
 have := qL hh c hc
 rw [qG hc] at this
 rw [hx0]; exact this
theorem D4 (W0 : World) (R : List HP) (room : Nat) (h : room ≤ 4) :
    aC Tryz.prog W0 304 [.int .i64 room] R (fun v B => ∃ b, v = .tuple #[.pointer (some ⟨b, 0, none⟩), .int .i64 0] ∧ B = eo b ([], [.int .i64 room, .int .i64 0, .bool true]) :: R) := by
 refine aG func304 ntmps304 rfl rfl ?_
 refine ae (ah (aa rfl (ai rfl) (aa rfl (ai rfl) (ag (ab (ae (ae (ah (aa rfl (ac rfl) (aa rfl (b0 rfl rfl) (aa rfl (ac rfl) ?_)))))))))))
 refine bC rfl rfl rfl ?_ ?_
 intro g1_3
 omega
 intro g1_3
 refine aa rfl (ac rfl) (ar rfl rfl (aa rfl (cy rfl rfl) (aa rfl (aM rfl rfl) (ag (ab ?_)))))
 refine aw rfl ?_ ?_
 intro c1
 omega
 intro c1
 refine aB (ab (ae (ah (aa rfl (ac rfl) (aa rfl (bY underlying525 zeroValue525 (aH sizeOf523 (aH az (aH az (aH cB bX)))) (bq rfl az rfl rfl (Nat.le_of_ble_eq_true rfl) SetL.eq (bq rfl cB rfl rfl (Nat.le_of_ble_eq_true rfl) SetL.eq bW))) ?_)))))
 refine am rfl (bJ rfl) ?_
 rintro _ _ ⟨b1, rfl, rfl⟩
 refine aa rfl (ai rfl) (aa rfl (ai rfl) (ag (ab (av (au (.inl rfl) (.cons (ak rfl) (.cons (ak rfl) .nil)) ?_)))))
 exact ⟨_, ⟨b1, rfl, rfl⟩, (Ent.cons (fH (B := R))).trans (eZ (R := R) (C := [_, _]) ⟨none, 0, rfl⟩)⟩
abbrev wJ (pv bt bs : Nat) : Obj := ax [.pointer (some ⟨pv, 0, none⟩), .pointer (some ⟨bt, 0, none⟩), .pointer (some ⟨bs, 0, none⟩)] 443
theorem D5 : aC Tryz.prog W0 305 [] R (fun v B => ∃ b, v = .pointer (some ⟨b, 0, none⟩) ∧ B = pt b (ax [du, .bool true] 512) :: R) := by
 refine aG func305 ntmps305 rfl rfl ?_
 refine ae (ah (aa rfl (ai rfl) (ag (ab (ae (ah (aa rfl (bY underlying512 zeroValue512 (aH sizeOf510 (aH cB bX)) (bq rfl cB rfl rfl (Nat.le_of_ble_eq_true rfl) SetL.eq bW)) ?_)))))))
 refine am rfl (bJ rfl) ?_
 rintro _ _ ⟨b1, rfl, rfl⟩
 refine aa rfl (ai rfl) (ag (ab (av (au (.inl rfl) (.cons (ak rfl) .nil) ?_))))
 exact ⟨_, ⟨_, rfl, rfl⟩, ent_refl⟩
theorem D6 (W0 : World) (R : List HP) (pv ps pm d room : Nat) (hr : room ≤ 4) :
    aC Tryz.prog W0 209 [.pointer (some ⟨pv, 0, none⟩), .int .i64 room] (pt pv (iP ps pm d) :: R)
      (fun v B => ∃ bm bt bs, v = .tuple #[.pointer (some ⟨bm, 0, none⟩), .int .i64 0] ∧ B = pt bm (wJ pv bt bs) :: eo bt ([], [.int .i64 room, .int .i64 0, .bool true]) :: pt bs (ax [du, .bool true] 512) :: pt pv (iP ps pm d) :: R) := by
 refine aG func209 ntmps209 rfl rfl ?_
 refine ae (ah (aa rfl (ai rfl) (aa rfl (ai rfl) (ag (ab (ae (ae (ah (aa rfl (ac rfl) (am rfl (bn call143 rfl (Bm pv ps pm d)) ?_))))))))))
 rintro _ B_ ⟨rfl, hB_⟩
 obtain rfl := hB_.symm
 refine aa rfl (dv Ff rfl rfl) (ag (ab ?_))
 refine aw rfl ?_ ?_
 intro c1
 exact absurd c1 (by simp)
 intro c1
 refine aB (ab (ae (ah (aa rfl (ac rfl) (am rfl (aU call304 rfl (D4 W0 _ room hr)) ?_)))))
 rintro _ B_ ⟨bt, rfl, hB_⟩
 subst hB_
 refine aa rfl (ac rfl) (aa rfl (aS rfl rfl) (aa rfl (aS rfl rfl) (aa rfl (ai rfl) (aa rfl (ai rfl) (ag (ab (ae (ae (ah (aa rfl (ac rfl) (aa rfl (bI rfl rfl) (ag (ab ?_)))))))))))))
 refine aw rfl ?_ ?_
 intro c4
 exact absurd rfl c4
 intro c4
 refine aB (ab (ae (ah (aa rfl (ac rfl) (aa rfl (ac rfl) (am rfl (aU call305 rfl (D5)) ?_))))))
 rintro _ B_ ⟨bs, rfl, hB_⟩
 subst hB_
 refine aa rfl (bY underlying443 zeroValue443 (aH pR (aH sizeOf440 (aH sizeOf441 bX))) (bq rfl pR rfl rfl (Nat.le_of_ble_eq_true rfl) SetL.eq (bq rfl sizeOf440 rfl rfl (Nat.le_of_ble_eq_true rfl) SetL.eq (bq rfl sizeOf441 rfl rfl (Nat.le_of_ble_eq_true rfl) SetL.eq bW)))) ?_
 refine am rfl (bJ rfl) ?_
 rintro _ _ ⟨bm, rfl, rfl⟩
 refine aa rfl (ai rfl) (aa rfl (ai rfl) (ag (ab (av (au (.inl rfl) (.cons (ak rfl) (.cons (ak rfl) .nil)) ?_)))))
 exact ⟨_, ⟨bm, bt, bs, rfl, rfl⟩, inferInstance⟩
abbrev pV (b : Nat) : Value := .pointer (some ⟨b, 0, none⟩)
structure Bd where
  r : Nat
  c : Nat
  m : Nat
  v : Nat
  t : Nat
@[reducible] def kU (x : Bd) (qs : List Nat) : List Value := [pV x.r, pV x.c, pV x.m] ++ (qs.map pV ++ List.replicate (3 - qs.length) (.pointer none)) ++ [pV x.v, pV x.t, .bool false, .int .u32 0, .int .u32 0, .int .u32 0, .int .u32 0]
theorem D7 {x : Bd} {q : Nat} : ∀ {qs : List Nat}, qs.length < 3 → (kU x qs).set (3 + qs.length * 1) (pV q) = kU x (qs ++ [q])
 | [], _ => rfl
 | [a], _ => rfl
 | [a, b], _ => rfl
theorem D8 {x : Bd} {qs : List Nat} (h : qs.length ≤ 3) : (kU x qs).length = 13 := by
 simp [kU]; omega
abbrev pq (x : Bd) (i bt bs pv : Nat) (T : List HP) : List HP := pt x.r (bS (List.replicate 16 0) 0) :: pt x.c (wB i) :: pt x.m (wJ pv bt bs) :: eo bt ([], [.int .i64 ((4 : Nat) : Int), .int .i64 0, .bool true]) :: pt bs (ax [du, .bool true] 512) :: pt x.v iu :: pt x.t wC :: T
theorem wK {l : List HP} {x : HP} {R : List HP} : Ent (x :: kH 6 (bB l) :: R) (kH 6 (bB (l ++ [x])) :: R) :=
  (Ent.cons (ik (A := l) (R := R))).trans ((Ent.ofPerm (by
    show (x :: (l ++ R)).Perm ((l ++ [x]) ++ R)
    rw [List.append_assoc]
    exact (List.perm_middle).symm)).trans fY)
@[reducible] def wL (x : Bd) (q0 q1 q2 : Nat) : List Value := [pV x.r, pV x.c, pV x.m, pV q0, pV q1, pV q2, pV x.v, pV x.t, .bool false, .int .u32 0, .int .u32 0, .int .u32 0, .int .u32 0]
theorem D9 (W0 : World) (R : List HP) (i pv ps pm d : Nat) (hi : i < 4) :
    aC Tryz.prog W0 91 [.int .i64 i, pV pv] (pt pv (iP ps pm d) :: R)
      (fun v B => ∃ x bt bs q0 q1 q2, v = .tuple #[.agg (wL x q0 q1 q2).toArray, .int .i64 0] ∧ B = pq x i bt bs pv (kH 6 (bB [pt q0 (qO true iQ), pt q1 (qO true iQ), pt q2 (qO true iQ)]) :: pt pv (iP ps pm d) :: R)) := by
 refine aG func91 ntmps91 rfl rfl ?_
 refine ae (ah (am rfl (cM tn) ?_))
 rintro _ _ ⟨b4, rfl, rfl⟩
 refine aa rfl (ai rfl) (ag (ab (ae (ah (aa rfl (ac rfl) (am rfl (aU call208 rfl (CO i hi)) ?_))))))
 rintro _ B_ ⟨cb, rfl, hB_⟩
 obtain rfl := hB_.symm
 refine aa rfl (ac rfl) (aa rfl (aS rfl rfl) (aa rfl (aS rfl rfl) (aa rfl (ai rfl) (aa rfl (ai rfl) (ag (ab (ae (ae (ah (aa rfl (ac rfl) (aa rfl (bI rfl rfl) (ag (ab ?_)))))))))))))
 refine aw rfl ?_ ?_
 intro c2
 exact absurd c2 (by decide)
 intro c2
 refine aB (ab (ae (ah (aa rfl (ac rfl) ?_))))
 refine am rfl (bn call209 rfl (D6 W0 _ pv ps pm d 4 (by decide))) ?_
 rintro _ B_ ⟨bm, bt, bs, rfl, hB_⟩
 obtain rfl := hB_.symm
 refine aa rfl (ac rfl) (aa rfl (aS rfl rfl) (aa rfl (aS rfl rfl) (aa rfl (ai rfl) (aa rfl (ai rfl) (ag (ab (ae (ae (ah (aa rfl (ac rfl) (aa rfl (bI rfl rfl) (ag (ab ?_)))))))))))))
 refine aw rfl ?_ ?_
 intro c5
 exact absurd c5 (by decide)
 intro c5
 refine aB (ab (ae (ah (am rfl (aU call210 rfl (CJ)) ?_))))
 rintro _ B_ ⟨rb, rfl, hB_⟩
 obtain rfl := hB_.symm
 refine aa rfl (ac rfl) (aa rfl (ac rfl) (am rfl (aU call211 rfl (CP)) ?_))
 rintro _ B_ ⟨vb, rfl, hB_⟩
 obtain rfl := hB_.symm
 refine am rfl (aU call212 rfl (CQ)) ?_
 rintro _ B_ ⟨tb, rfl, hB_⟩
 obtain rfl := hB_.symm
 refine aa rfl (bY je tn (aH jK (aH sizeOf131 (aH sizeOf132 (aH sizeOf134 (aH yh (aH sizeOf136 (aH cB (aH ec bX)))))))) (bq rfl jK rfl rfl (Nat.le_of_ble_eq_true rfl) SetL.eq (bq rfl sizeOf131 rfl rfl (Nat.le_of_ble_eq_true rfl) SetL.eq (bq rfl sizeOf132 rfl rfl (Nat.le_of_ble_eq_true rfl) SetL.eq (bq rfl yh rfl rfl (Nat.le_of_ble_eq_true rfl) SetL.eq (bq rfl sizeOf136 rfl rfl (Nat.le_of_ble_eq_true rfl) SetL.eq bW)))))) ?_
 refine am rfl (cM tn) ?_
 rintro _ _ ⟨b9, rfl, rfl⟩
 refine bD (cD gz rfl rfl rfl rfl rfl) ?_
 rintro _ _ rfl
 refine ag (ab (ae (ae (ah (aa rfl (ac rfl) (ag (ab (aW ?_))))))))
 refine cT (fun qs : List Nat => qs.length ≤ 3) (fun qs => [(4, pV b4), (9, pV b9), (35, .int .i64 qs.length)]) (fun qs => pt b9 (ax (kU ⟨rb, cb, bm, vb, tb⟩ qs) 138) :: kH 6 (bB (qs.map fun q => pt q (qO true iQ))) :: pt b4 (ax [.pointer none, .pointer none, .pointer none, .pointer none, .pointer none, .pointer none, .pointer none, .pointer none, .bool false, .int .u32 0, .int .u32 0, .int .u32 0, .int .u32 0] 138) :: pq ⟨rb, cb, bm, vb, tb⟩ i bt bs pv (pt pv (iP ps pm d) :: R)) (fun qs => 3 - qs.length) [] ?_ ?_ ?_ ?_
 exact Nat.zero_le _
 · repeat (first | exact aX | refine aV rfl ?_)
 refine Ent.trans (B := pt b9 (ax (kU ⟨rb, cb, bm, vb, tb⟩ []) 138) :: pt b4 (ax [.pointer none, .pointer none, .pointer none, .pointer none, .pointer none, .pointer none, .pointer none, .pointer none, .bool false, .int .u32 0, .int .u32 0, .int .u32 0, .int .u32 0] 138) :: pq ⟨rb, cb, bm, vb, tb⟩ i bt bs pv (pt pv (iP ps pm d) :: R)) ?_ ?_
 rw [show kU ⟨rb, cb, bm, vb, tb⟩ [] = [pV rb, pV cb, pV bm, .pointer none, .pointer none, .pointer none, pV vb, pV tb, .bool false, .int .u32 0, .int .u32 0, .int .u32 0, .int .u32 0] from rfl]
 exact inferInstance
 exact Ent.cons (fY (A := []))
 intro qs hq
 refine ae (ah (aa rfl (b0 rfl rfl) (ag (ab (ae ?_)))))
 refine aw rfl ?_ ?_
 intro c9
 refine aB (ab (ae (aW (ae (ah (aa rfl (ac rfl) (aa rfl (ai rfl) (ag (ab ?_)))))))))
 have hq3 : qs.length < 3 := by omega
 refine ah (aa rfl (ac rfl) (am rfl (aU call213 rfl (BE)) ?_))
 rintro _ B_ ⟨q, rfl, hB_⟩
 obtain rfl := hB_.symm
 refine aa rfl (al rfl je rfl sizeOf134 rfl (by first | exact Nat.zero_add _ | rfl)) ?_
 refine aa rfl (dO underlying134 sizeOf133 rfl rfl rfl hq3 (by first | exact Nat.zero_add _ | rfl)) ?_
 refine bD (cm sizeOf133 rfl rfl rfl (by rw [D8 hq]; omega) (D7 hq3)) ?_
 rintro _ _ rfl
 refine ag (bH (ab (ah ?_)))
 refine aa rfl (bF rfl rfl (by first | exact aZ (by omega) | rfl)) ?_
 refine aa rfl (ac rfl) (ag (ab ?_))
 refine cG (qs ++ [q]) ?_ ?_ ?_ ?_
 show (qs ++ [q]).length ≤ 3; simp; omega
 show 3 - (qs ++ [q]).length < 3 - qs.length; simp; omega
 · rw [show ((qs ++ [q]).length : Int) = ((qs.length : Nat) : Int) + 1 by simp]
   repeat (first | exact aX | refine aV rfl ?_)
 rw [List.map_append]
 exact Ent.cons wK
 intro c9
 refine cj (bi (bi (co (ab (ae ?_)))))
 have hq3 : qs.length = 3 := by omega
 obtain ⟨q0, q1, q2, rfl⟩ : ∃ q0 q1 q2, qs = [q0, q1, q2] := by
  match qs, hq3 with
  | [a, b, c], _ => exact ⟨a, b, c, rfl⟩
 refine ah (aa rfl (cp yi gz rfl rfl) ?_)
 refine bD (cD gz rfl rfl rfl rfl rfl) ?_
 rintro _ _ rfl
 refine aa rfl (ai rfl) (ag (ab (av (au (.inl rfl) (.cons (fG yi gz rfl rfl) (.cons (ak rfl) .nil)) ?_))))
 refine ⟨_, ⟨⟨rb, cb, bm, vb, tb⟩, bt, bs, q0, q1, q2, rfl, rfl⟩, ?_⟩
 rw [show [q0, q1, q2].map (fun q => pt q (qO true iQ)) = [pt q0 (qO true iQ), pt q1 (qO true iQ), pt q2 (qO true iQ)] from rfl]
 exact inferInstance
def kV (r : Int × Int) (i : Int) : Int := if i = r.1 then 3 else if i = r.2 then 1 else 0
theorem Da (W0 : World) (R : List HP) (r : Int × Int) (i : Int) :
    aC Tryz.prog W0 205 [.agg (dj r).toArray, .int .i64 i] R (fun v B => v = .int .i64 (kV r i) ∧ B = R) := by
 refine aG func205 ntmps205 rfl rfl ?_
 refine ae (ah (am rfl (bJ rfl) ?_))
 rintro _ _ ⟨b2, rfl, rfl⟩
 refine aa rfl (ai rfl) (ag (ab (ae (ae (ah (aa rfl (ac rfl) (ag (ab (aW (ae (ah ?_)))))))))))
 refine aa rfl (al rfl et rfl az rfl (by first | exact Nat.zero_add _ | rfl)) ?_
 refine aa rfl (ao aQ rfl (aA rfl)) ?_
 refine aa rfl (cu rfl rfl) (aa rfl (ai rfl) (ag (ab ?_)))
 refine aw rfl ?_ ?_
 intro c2
 refine ae (ah (aa rfl (ai rfl) (ag (ab (av (bj (aE (au (.inl rfl) (.cons (ak rfl) .nil) ?_))))))))
 rw [kV, if_pos (by simpa using c2)]
 exact ⟨_, ⟨rfl, rfl⟩, inferInstance⟩
 intro c2
 refine ae (ah ?_)
 refine aa rfl (al rfl et rfl az rfl (by first | exact Nat.zero_add _ | rfl)) ?_
 refine aa rfl (ao aQ rfl (aA rfl)) ?_
 refine aa rfl (cu rfl rfl) (aa rfl (ai rfl) (ag (ab ?_)))
 refine aw rfl ?_ ?_
 intro c4
 refine ae (ah (aa rfl (ai rfl) (ag (ab (av (bj (aE (au (.inl rfl) (.cons (ak rfl) .nil) ?_))))))))
 rw [kV, if_neg (by simpa using c2), if_pos (by simpa using c4)]
 exact ⟨_, ⟨rfl, rfl⟩, inferInstance⟩
 intro c4
 refine aB (bH (ab (ae (ah (aa rfl (ai rfl) (ag (ab (av (au (.inl rfl) (.cons (ak rfl) .nil) ?_)))))))))
 rw [kV, if_neg (by simpa using c2), if_neg (by simpa using c4)]
 exact ⟨_, ⟨rfl, rfl⟩, inferInstance⟩
def dL (c : Cfg) (k : Nat) : Int × Int := c.nl.getD k (0, 0)
def iT (c : Cfg) (i : Int) : Nat → List Pl → List Pl
 | 0, pg => pg
 | k + 1, pg => if kV (dL c k) i = 0 then iT c i k pg else ew (iT c i k pg) ((8 + k : Nat) : Int) (fV c k, kV (dL c k) i)
theorem pr {c : Cfg} {i : Int} {pg : List Pl} (h : Pgs pg) : ∀ k, Pgs (iT c i k pg)
 | 0 => h
 | k + 1 => by
  rw [iT]; split
  exact pr h k
  exact oA (pr h k)
theorem Db (W0 : World) (R : List HP) (c : Cfg) (h : CfK W0 c) (i : Int) (pm : Nat) (pg : List Pl) (hp : Pgs pg) (hn : c.nl.length ≤ 4) :
    aC Tryz.prog W0 89 [.agg (bU c).toArray, .int .i64 i, pV pm] (pt pm (dF pg) :: R) (fun v B => v = .tuple #[] ∧ B = pt pm (dF (iT c i c.nl.length pg)) :: R) := by
 refine aG func89 ntmps89 rfl rfl ?_
 refine ae (ah (am rfl (bJ rfl) ?_))
 rintro _ _ ⟨b3, rfl, rfl⟩
 refine ag (ab (ae (ah ?_)))
 refine aa rfl (al rfl bw rfl eV rfl (by first | exact Nat.zero_add _ | rfl)) ?_
 refine aa rfl (ao ff rfl (aA rfl)) ?_
 refine aa rfl (bu eI rfl) (aa rfl (ac rfl) (ag (ab (aW ?_))))
 refine cT (fun k : Nat => k ≤ c.nl.length) (fun k => [(1, .int .i64 i), (2, pV pm), (3, pV b3), (10, .slice c.na c.nl.length c.nc), (11, .int .i64 (c.nl.length : Nat)), (12, .int .i64 k)]) (fun k => pt b3 (dd c) :: pt pm (dF (iT c i k pg)) :: R) (fun k => c.nl.length - k) 0 ?_ ?_ ?_ ?_
 exact Nat.zero_le _
 · repeat (first | exact aX | refine aV rfl ?_)
 rw [show iT c i 0 pg = pg from rfl]
 exact inferInstance
 intro k hk
 refine ae (ah (aa rfl (b0 rfl rfl) (ag (ab (ae ?_)))))
 refine aw rfl ?_ ?_
 intro c2
 refine aB (ab ?_)
 refine gM (fun _ : Unit => k < c.nl.length) (fun _ => [(1, .int .i64 i), (2, pV pm), (3, pV b3), (10, .slice c.na c.nl.length c.nc), (11, .int .i64 (c.nl.length : Nat)), (12, .int .i64 k)]) (fun _ => pt b3 (dd c) :: pt pm (dF (iT c i (k + 1) pg)) :: R) ?_ ?_
 skip
 refine aW (ae ?_)
 have hk1 : k < c.nl.length := by omega
 obtain ⟨g, o, hga, hc⟩ := (h.ok.n []).at_ hk1
 obtain ⟨x, hx⟩ : ∃ x, c.nl[k] = x := ⟨_, rfl⟩
 rw [hx] at hc
 have hA : dL c k = x := by simp [dL, List.getD, hk1, hx]
 have hpk := pr (c := c) (i := i) hp k
 refine ah (aa rfl (ac rfl) ?_)
 refine aa rfl (dH eI ei rfl hga rfl rfl hk1 (by first | exact Nat.zero_add _ | rfl)) ?_
 refine aa rfl (cV l7 ei rfl hc.weak rfl) ?_
 refine am rfl (cM ic) ?_
 rintro _ _ ⟨b7, rfl, rfl⟩
 refine aa rfl (ai rfl) (bD (cD ei rfl rfl rfl rfl rfl) ?_)
 rintro _ _ rfl
 refine ag (ab (ae (ah (aa rfl (cp l7 ei rfl rfl) ?_))))
 refine aa rfl (ac rfl) (am rfl (aU call205 rfl (Da W0 _ x i)) ?_)
 rintro _ B_ ⟨rfl, hB_⟩
 obtain rfl := hB_.symm
 refine aa rfl (ai rfl) (ag (ab (ae (ah (aa rfl (ac rfl) (aa rfl (bI rfl rfl) (ag (ab ?_))))))))
 refine aw rfl ?_ ?_
 intro c5
 refine ah (aa rfl (ac rfl) (aa rfl (ac rfl) ?_))
 refine aa rfl (bF rfl rfl (by rw [aZ (by omega)]; omega : IntKind.wrap .i64 (8 + (k : Int)) = ((8 + k : Nat) : Int))) ?_
 refine aa rfl (cp cn bN rfl rfl) ?_
 refine aa rfl (ac rfl) (am rfl (aU call206 rfl (wu W0 _ c h k)) ?_)
 rintro _ B_ ⟨rfl, hB_⟩
 obtain rfl := hB_.symm
 refine aa rfl (ac rfl) (aa rfl (bY gI jb (aH az (aH az bX)) (bq rfl az rfl rfl (Nat.le_of_ble_eq_true rfl) SetL.eq (bq rfl az rfl rfl (Nat.le_of_ble_eq_true rfl) SetL.eq bW))) ?_)
 refine am rfl (bn call204 rfl (uD pm (iT c i k pg) hpk (8 + k : Nat) (fV c k, kV x i))) ?_
 rintro _ B_ ⟨rfl, hB_⟩
 obtain rfl := hB_.symm
 refine ag (bH (ab ?_))
 refine dz () ?_ ?_ ?_
 exact hk1
 · repeat (first | exact aX | refine aV rfl ?_)
 rw [iT, hA, if_neg (by simpa using c5)]
 exact inferInstance
 intro c5
 refine aB (bH (ab ?_))
 refine dz () ?_ ?_ ?_
 exact hk1
 · repeat (first | exact aX | refine aV rfl ?_)
 rw [iT, hA, if_pos (by simpa using c5)]
 exact inferInstance
 intro _ hk1
 refine ah ?_
 refine aa rfl (bF rfl rfl (by first | exact aZ (by omega) | rfl)) ?_
 refine aa rfl (ac rfl) (ag (ab ?_))
 refine cG (k + 1) ?_ ?_ ?_ ?_
 omega
 omega
 · repeat (first | exact aX | refine aV rfl ?_)
 exact inferInstance
 intro c2
 refine cj (bi (bi (co (au (.inr rfl) .nil ?_))))
 obtain rfl : k = c.nl.length := by omega
 exact ⟨_, ⟨rfl, rfl⟩, inferInstance⟩
theorem Dc {ws : List Nat} {n : Nat} (h : n ≤ 8) : bO (bO ws 8) n = bO ws n := by
 rw [bO, bO, bO, List.take_take, Nat.min_eq_left (by omega)]
abbrev iw : List Pl := List.replicate 12 (0, 0)
theorem pu : Pgs iw := ⟨rfl, fun n hn h => absurd (by
  have : n = 0 ∨ n = 1 ∨ n = 2 ∨ n = 3 ∨ n = 4 ∨ n = 5 ∨ n = 6 ∨ n = 7 ∨ n = 8 ∨ n = 9 ∨ n = 10 ∨ n = 11 := by omega
  rcases this with rfl | rfl | rfl | rfl | rfl | rfl | rfl | rfl | rfl | rfl | rfl | rfl <;> rfl) h⟩
theorem wM : kK iw 0 8 := fun i _ hi => by
 have : i = 0 ∨ i = 1 ∨ i = 2 ∨ i = 3 ∨ i = 4 ∨ i = 5 ∨ i = 6 ∨ i = 7 := by omega
 rcases this with rfl | rfl | rfl | rfl | rfl | rfl | rfl | rfl <;> decide
@[reducible] def pw (x : Bd) (q0 q1 q2 : Nat) (c : Cfg) (i : Nat) (wv : Value) (pb pv bx tr : Nat) : List Value :=
  [pV x.r, pV x.c, pV x.m, pV q0, pV q1, pV q2, pV x.v, pV x.t, .bool false, .int .u32 0, .int .u32 0, .int .u32 0, .int .u32 0] ++ bU c ++ [.int .i64 i, wv, pV pb, pV pv, pV bx, pV tr, .int .i64 0]
theorem Dd {S : World → Prop} {N : FSz} {e : bQ} {o0 o1 o2 o3 o4 o5 o6 o7 : Operand} {x : Bd} {q0 q1 q2 i pb pv bx tr : Nat} {c : Cfg} {wv : Value} (hw : wv.oneCell' = true) (h0 : ev e o0 = some (.agg (wL x q0 q1 q2).toArray)) (h1 : ev e o1 = some (.agg (bU c).toArray)) (h2 : ev e o2 = some (.int .i64 i)) (h3 : ev e o3 = some wv) (h4 : ev e o4 = some (pV pb)) (h5 : ev e o5 = some (pV pv)) (h6 : ev e o6 = some (pV bx)) (h7 : ev e o7 = some (pV tr)) :
    cC Tryz.prog S N e (.build 142 #[(0, o0), (1, o1), (2, o2), (3, o3), (4, o4), (5, o5), (6, o6), (7, o7)]) (.agg (pw x q0 q1 q2 c i wv pb pv bx tr).toArray) :=
  bY (l' := pw x q0 q1 q2 c i wv pb pv bx tr) ii zeroValue142 (aH gz (aH bN (aH az (aH nL (aH nS (aH pR (aH sizeOf140 (aH to (aH az bX)))))))))
    (im (l' := [pV x.r, pV x.c, pV x.m, pV q0, pV q1, pV q2, pV x.v, pV x.t, .bool false, .int .u32 0, .int .u32 0, .int .u32 0, .int .u32 0, .int .i64 0, .slice none 0 0, .slice none 0 0, .slice none 0 0, .slice none 0 0, .slice none 0 0, .int .i64 0, .int .i64 0, .int .i64 0, .slice none 0 0, .pointer none, .pointer none, .pointer none, .pointer none, .int .i64 0]) rfl gz h0 rfl (Nat.le_of_ble_eq_true rfl) rfl
    (im (l' := [pV x.r, pV x.c, pV x.m, pV q0, pV q1, pV q2, pV x.v, pV x.t, .bool false, .int .u32 0, .int .u32 0, .int .u32 0, .int .u32 0, .int .i64 c.cats, .slice c.ga c.gl.length c.gc, .slice c.ra c.rl.length c.rc, .slice c.pa c.pl.length c.pc, .slice c.na c.nl.length c.nc, .slice c.sa c.sl.length c.sc, .int .i64 c.gate, .int .i64 c.quota, .int .i64 0, .slice none 0 0, .pointer none, .pointer none, .pointer none, .pointer none, .int .i64 0]) rfl bN h1 rfl (Nat.le_of_ble_eq_true rfl) rfl
    (bq (l' := [pV x.r, pV x.c, pV x.m, pV q0, pV q1, pV q2, pV x.v, pV x.t, .bool false, .int .u32 0, .int .u32 0, .int .u32 0, .int .u32 0, .int .i64 c.cats, .slice c.ga c.gl.length c.gc, .slice c.ra c.rl.length c.rc, .slice c.pa c.pl.length c.pc, .slice c.na c.nl.length c.nc, .slice c.sa c.sl.length c.sc, .int .i64 c.gate, .int .i64 c.quota, .int .i64 i, .slice none 0 0, .pointer none, .pointer none, .pointer none, .pointer none, .int .i64 0]) rfl az h2 rfl (Nat.le_of_ble_eq_true rfl) rfl
    (bq (l' := [pV x.r, pV x.c, pV x.m, pV q0, pV q1, pV q2, pV x.v, pV x.t, .bool false, .int .u32 0, .int .u32 0, .int .u32 0, .int .u32 0, .int .i64 c.cats, .slice c.ga c.gl.length c.gc, .slice c.ra c.rl.length c.rc, .slice c.pa c.pl.length c.pc, .slice c.na c.nl.length c.nc, .slice c.sa c.sl.length c.sc, .int .i64 c.gate, .int .i64 c.quota, .int .i64 i, wv, .pointer none, .pointer none, .pointer none, .pointer none, .int .i64 0]) rfl nL h3 hw (Nat.le_of_ble_eq_true rfl) rfl
    (bq (l' := [pV x.r, pV x.c, pV x.m, pV q0, pV q1, pV q2, pV x.v, pV x.t, .bool false, .int .u32 0, .int .u32 0, .int .u32 0, .int .u32 0, .int .i64 c.cats, .slice c.ga c.gl.length c.gc, .slice c.ra c.rl.length c.rc, .slice c.pa c.pl.length c.pc, .slice c.na c.nl.length c.nc, .slice c.sa c.sl.length c.sc, .int .i64 c.gate, .int .i64 c.quota, .int .i64 i, wv, pV pb, .pointer none, .pointer none, .pointer none, .int .i64 0]) rfl nS h4 rfl (Nat.le_of_ble_eq_true rfl) rfl
    (bq (l' := [pV x.r, pV x.c, pV x.m, pV q0, pV q1, pV q2, pV x.v, pV x.t, .bool false, .int .u32 0, .int .u32 0, .int .u32 0, .int .u32 0, .int .i64 c.cats, .slice c.ga c.gl.length c.gc, .slice c.ra c.rl.length c.rc, .slice c.pa c.pl.length c.pc, .slice c.na c.nl.length c.nc, .slice c.sa c.sl.length c.sc, .int .i64 c.gate, .int .i64 c.quota, .int .i64 i, wv, pV pb, pV pv, .pointer none, .pointer none, .int .i64 0]) rfl pR h5 rfl (Nat.le_of_ble_eq_true rfl) rfl
    (bq (l' := [pV x.r, pV x.c, pV x.m, pV q0, pV q1, pV q2, pV x.v, pV x.t, .bool false, .int .u32 0, .int .u32 0, .int .u32 0, .int .u32 0, .int .i64 c.cats, .slice c.ga c.gl.length c.gc, .slice c.ra c.rl.length c.rc, .slice c.pa c.pl.length c.pc, .slice c.na c.nl.length c.nc, .slice c.sa c.sl.length c.sc, .int .i64 c.gate, .int .i64 c.quota, .int .i64 i, wv, pV pb, pV pv, pV bx, .pointer none, .int .i64 0]) rfl sizeOf140 h6 rfl (Nat.le_of_ble_eq_true rfl) rfl
    (bq (l' := [pV x.r, pV x.c, pV x.m, pV q0, pV q1, pV q2, pV x.v, pV x.t, .bool false, .int .u32 0, .int .u32 0, .int .u32 0, .int .u32 0, .int .i64 c.cats, .slice c.ga c.gl.length c.gc, .slice c.ra c.rl.length c.rc, .slice c.pa c.pl.length c.pc, .slice c.na c.nl.length c.nc, .slice c.sa c.sl.length c.sc, .int .i64 c.gate, .int .i64 c.quota, .int .i64 i, wv, pV pb, pV pv, pV bx, pV tr, .int .i64 0]) rfl to h7 rfl (Nat.le_of_ble_eq_true rfl) rfl
    bW))))))))
def eR (c : Cfg) (i : Nat) (ws : List Nat) (fr : List bZ) (po : Po) : Im := d8 i (bO ws (d5 c i).2.1.toNat) (d5 c i).2.1.toNat ⟨fr, po, iw⟩
theorem De (W0 : World) (R : List HP) (c : Cfg) (h : CfK W0 c) (hr : rt c = true) (i : Nat) (hi : i < c.gl.length) (ps pb : Nat) (fr : List bZ) (po : Po) (hF : dZ fr) (hP : PoOk po) (hl : po.length = fr.length) (h0 : 0 < fr.length) (hfre : (d5 c i).2.1 ≤ ((bP po i).length : Int))
    (a : Option Addr) (cap : Nat) (ws : List Nat) (hs : ∀ A, cF (bK W0 A) a 1 iR ws) (hb : ∀ y ∈ ws, y < 4294967296) (hn : ws.length < 9223372036854775808) :
    aC Tryz.prog W0 33 [.agg (bU c).toArray, .int .i64 i, pV ps, pV pb, .slice a ws.length cap] (da pb (ps, po) :: bG ps fr :: R)
      (fun v B => ∃ gb x bt bs q0 q1 q2 wg pv pm bx tr, v = .tuple #[pV gb, .int .i64 0] ∧
        B = pt gb (ax (pw x q0 q1 q2 c i (.slice (some ⟨wg, 0, none⟩) (bO ws 8).length (bO ws 8).length) pb pv bx tr) 142) :: pq x i bt bs pv (kH 6 (bB [pt q0 (qO true iQ), pt q1 (qO true iQ), pt q2 (qO true iQ)]) :: pt pv (iP ps pm 0) :: pt bx wD :: cq tr [] :: pt wg (ax ((bO ws 8).map wV) 42) :: pt pm (dF (iT c i c.nl.length (eR c i ws fr po).pg)) :: da pb (ps, (eR c i ws fr po).po) :: bG ps (eR c i ws fr po).fr :: R)) := by
 have hck : fT c = 0 := of_decide_eq_true hr
 have hR := fb hr
 have hg4 := hR.g4
 have hgs := hR.gs i hi
 obtain ⟨g, o, hga, hc⟩ := (h.ok.g []).at_ hi
 obtain ⟨x, hx⟩ : ∃ x, c.gl[i] = x := ⟨_, rfl⟩
 have hA : d5 c i = x := by simp [d5, List.getD, hi, hx]
 obtain ⟨n, hxn⟩ : ∃ n : Nat, x.2.1 = (n : Int) := ⟨x.2.1.toNat, by rw [hA] at hgs; omega⟩
 have hln : (d5 c i).2.1.toNat = n := by rw [hA, hxn]; rfl
 have hlaid : eR c i ws fr po = d8 i (bO (bO ws 8) n) n ⟨fr, po, iw⟩ := by rw [eR, hln, Dc (by rw [hA] at hgs; omega)]
 rw [hlaid]
 rw [hx] at hc
 rw [hA, hxn] at hgs hfre
 have hok : ImOk ⟨fr, po, iw⟩ := ⟨hF, hP, pu, hl⟩
 have hok1 := kJ (who := i) (words := bO (bO ws 8) n) (n := n) (by omega) hok
 have hcl := nq ws 8
 have hpo1 := hok1.len
 have hfr1 : 0 < (d8 i (bO (bO ws 8) n) n ⟨fr, po, iw⟩).fr.length := by
  have : ∀ k, (d8 i (bO (bO ws 8) n) k ⟨fr, po, iw⟩).fr.length = fr.length := fun k => by
   induction k with
   | zero => rfl
   | succ k ih =>
    rw [d8, g8]
    split
    rw [(lI (kJ (by omega) hok).fr).2]; exact ih
    exact ih
  rw [this]; exact h0
 refine aG func33 ntmps33 rfl rfl ?_
 refine ae (ah (am rfl (bJ rfl) ?_))
 rintro _ _ ⟨b5, rfl, rfl⟩
 refine aa rfl (ai rfl) (aa rfl (ai rfl) (ag (ab (ae (ae (ah (aa rfl (cp cn bN rfl rfl) ?_)))))))
 refine am rfl (aU te rfl (oW W0 _ c h.ok)) ?_
 rintro _ B_ ⟨at_, rfl, hB_⟩
 obtain rfl := hB_.symm
 rw [hck]
 refine aa rfl (ac rfl) (aa rfl (aS rfl rfl) (aa rfl (aS rfl rfl) (aa rfl (ai rfl) (aa rfl (ai rfl) (ag (ab (ae (ah (aa rfl (ac rfl) (aa rfl (bI rfl rfl) (aa rfl (ac rfl) ?_)))))))))))
 refine bC rfl rfl rfl ?_ ?_
 intro g2_3
 exact absurd g2_3 (by decide)
 intro g2_3
 refine aa rfl (ac rfl) (ar rfl rfl (aa rfl (b0 rfl rfl) (aa rfl (aM rfl rfl) (aa rfl (ac rfl) ?_))))
 refine bC rfl rfl rfl ?_ ?_
 intro g2_7
 omega
 intro g2_7
 refine aa rfl (ac rfl) (ar rfl rfl ?_)
 refine aa rfl (al rfl bw rfl dD rfl (by first | exact Nat.zero_add _ | rfl)) ?_
 refine ar rfl rfl (aa rfl (ao dN rfl (aA rfl)) ?_)
 refine ar rfl rfl (aa rfl (bu dq rfl) (ar rfl rfl (aa rfl (cK rfl rfl) (aa rfl (aM rfl rfl) (ag (ab ?_))))))
 refine aw rfl ?_ ?_
 intro c2
 omega
 intro c2
 refine aB (ab (ae (ah (am rfl (aU call85 rfl (zy)) ?_))))
 rintro _ B_ ⟨pm, rfl, hB_⟩
 obtain rfl := hB_.symm
 refine aa rfl (ai rfl) (ag (ab (ae (ae (ah (aa rfl (ac rfl) (am rfl (bn nG rfl (lF W0 _ ps fr)) ?_)))))))
 rintro _ B_ ⟨rfl, hB_⟩
 obtain rfl := hB_.symm
 refine aa rfl (cu rfl rfl) (aa rfl (ac rfl) ?_)
 refine bC rfl rfl rfl ?_ ?_
 intro g5_4
 omega
 intro g5_4
 refine aa rfl (ac rfl) (ar rfl rfl (aa rfl (dv Fg rfl rfl) (aa rfl (aM rfl rfl) (ag (ab ?_)))))
 refine aw rfl ?_ ?_
 intro c5
 cases c5
 intro c5
 refine aB (ab (ae (ah (aa rfl (ac rfl) ?_))))
 refine am rfl (aU call87 rfl (vY a cap 8 ws (hs _) (by decide) hn)) ?_
 rintro _ B_ ⟨wg, rfl, hB_⟩
 obtain rfl := hB_.symm
 refine aa rfl (ai rfl) (ag (ab (ae (ae (ah (aa rfl (ac rfl) (aa rfl (ac rfl) (aa rfl (ac rfl) (aa rfl (ac rfl) ?_)))))))))
 refine aa rfl (al rfl bw rfl dD rfl (by first | exact Nat.zero_add _ | rfl)) ?_
 refine aa rfl (ao dN rfl (aA rfl)) ?_
 refine aa rfl (ac rfl) ?_
 refine aa rfl (dH dq eH rfl hga rfl rfl hi (by first | exact Nat.zero_add _ | rfl)) ?_
 refine aa rfl (al rfl dV rfl az rfl (by first | exact Nat.zero_add _ | rfl)) ?_
 refine aa rfl (ao aQ rfl (hc.weak 1 _ (by rw [← hxn]; rfl : (dS x)[1]? = some (.int .i64 (n : Int))))) ?_
 refine aa rfl (ac rfl) ?_
 refine am rfl (kx call88 rfl (BS W0 _ pb ps pm i n ⟨fr, po, iw⟩ hok h0 (some ⟨wg, 0, none⟩) (bO ws 8).length (bO ws 8) (by omega) (by omega) (by omega) wM (by show n ≤ (bP po i).length; omega) (by intro A hA; exact (jQ (b := wg) rZ (s0 _).symm).weak (k := hA)) (fun y hy => hb y (List.mem_of_mem_take hy)) (by omega))) ?_
 rintro _ B_ ⟨rfl, hB_⟩
 obtain rfl := hB_.symm
 refine aa rfl (ai rfl) (ag (ab (ae (ah (aa rfl (ac rfl) (aa rfl (bI rfl rfl) (ag (ab ?_))))))))
 refine aw rfl ?_ ?_
 intro c9
 exact absurd c9 (by decide)
 intro c9
 refine aB (ab (ae (ah (aa rfl (cp cn bN rfl rfl) ?_))))
 refine aa rfl (ac rfl) (aa rfl (ac rfl) (am rfl (bn call89 rfl (Db W0 _ c h i pm _ hok1.pg hR.nn)) ?_))
 rintro _ B_ ⟨rfl, hB_⟩
 obtain rfl := hB_.symm
 refine ag (ab (ae (ah (aa rfl (ac rfl) (aa rfl (ac rfl) (am rfl (eX call90 rfl (Bl W0 _ ps pm _ _ (pr hok1.pg _) hfr1)) ?_))))))
 rintro _ B_ ⟨pv, rfl, hB_⟩
 obtain rfl := hB_.symm
 refine aa rfl (ac rfl) (aa rfl (aS rfl rfl) (aa rfl (aS rfl rfl) (aa rfl (ai rfl) (aa rfl (ai rfl) (ag (ab (ae (ae (ah (aa rfl (ac rfl) (aa rfl (bI rfl rfl) (ag (ab ?_)))))))))))))
 refine aw rfl ?_ ?_
 intro c13
 exact absurd c13 (by decide)
 intro c13
 refine aB (ab (ae (ah (aa rfl (ac rfl) (aa rfl (ac rfl) ?_)))))
 refine am rfl (bn call91 rfl (D9 W0 _ i pv ps pm 0 (by omega))) ?_
 rintro _ B_ ⟨x_, bt, bs, q0, q1, q2, rfl, hB_⟩
 obtain rfl := hB_.symm
 refine aa rfl (ac rfl) (aa rfl (aS rfl rfl) (aa rfl (aS rfl rfl) (am rfl (cM tn) ?_)))
 rintro _ _ ⟨b19, rfl, rfl⟩
 refine bD (cD gz rfl rfl rfl rfl rfl) ?_
 rintro _ _ rfl
 refine aa rfl (ai rfl) (ag (ab (ae (ae (ah (aa rfl (ac rfl) (aa rfl (bI rfl rfl) (ag (ab ?_)))))))))
 refine aw rfl ?_ ?_
 intro c16
 exact absurd c16 (by decide)
 intro c16
 refine aB (ab (ae ?_))
 refine cA [(b19, 0, _), (b5, 0, _)] 12 cz rfl (aK (aK aJ)) (fun hS => ?_)
 refine aj 0 rfl rfl (by kernel_rfl) (by kernel_rfl) (by kernel_rfl) rfl hS (cV yi gz rfl (by first | exact dm (k := 0) rfl | exact dm (k := 1) rfl) rfl) ?_
 refine aj 1 rfl rfl (by kernel_rfl) (by kernel_rfl) (by kernel_rfl) rfl hS (cV cn bN rfl (by first | exact dm (k := 0) rfl | exact dm (k := 1) rfl) rfl) ?_
 refine aj 2 rfl rfl (by kernel_rfl) (by kernel_rfl) (by kernel_rfl) rfl hS (ac rfl) ?_
 refine aj 3 rfl rfl (by kernel_rfl) (by kernel_rfl) (by kernel_rfl) rfl hS (ac rfl) ?_
 refine aj 4 rfl rfl (by kernel_rfl) (by kernel_rfl) (by kernel_rfl) rfl hS (ac rfl) ?_
 refine aj 5 rfl rfl (by kernel_rfl) (by kernel_rfl) (by kernel_rfl) rfl hS (ac rfl) ?_
 refine bA 6 (by kernel_rfl) rfl rfl (aU call92 rfl (CR)) rfl ?_; clear hS
 rintro _ B_ ⟨bx, rfl, hB_⟩
 obtain rfl := hB_.symm
 refine ⟨(aK (aK aJ)), fun hS => ?_⟩
 refine bA 7 (by kernel_rfl) rfl rfl (aU call93 rfl (CV)) rfl ?_; clear hS
 rintro _ B_ ⟨tr, rfl, hB_⟩
 obtain rfl := hB_.symm
 refine ⟨(aK (aK aJ)), fun hS => ?_⟩
 refine aj 8 rfl rfl (by kernel_rfl) (by kernel_rfl) (by kernel_rfl) rfl hS (Dd rfl rfl rfl rfl rfl rfl rfl rfl rfl) ?_
 refine bA 9 (by kernel_rfl) rfl rfl (bJ rfl) rfl ?_; clear hS
 rintro _ _ ⟨gb, rfl, rfl⟩
 refine ⟨(aK (aK aJ)), fun hS => ?_⟩
 refine aj 10 rfl rfl (by kernel_rfl) (by kernel_rfl) (by kernel_rfl) rfl hS (ai rfl) ?_
 refine aj 11 rfl rfl (by kernel_rfl) (by kernel_rfl) (by kernel_rfl) rfl hS (ai rfl) ?_
 refine bL (by kernel_rfl) ?_; clear hS
 refine ab (av (au (.inl rfl) (.cons (ak rfl) (.cons (ak rfl) .nil)) ?_))
 refine ⟨_, ⟨gb, x_, bt, bs, q0, q1, q2, wg, pv, pm, bx, tr, rfl, rfl⟩, inferInstance⟩
theorem sx : ∀ (vs l : List Value) (i j : Nat), j < i → (setR l i vs)[j]? = l[j]?
 | [], l, i, j, h => rfl
 | v :: vs, l, i, j, h => by
  rw [setR, sx vs _ _ _ (by omega), List.getElem?_set_ne (by omega)]
theorem wN : ∀ (vs l : List Value) (i : Nat), (setR l i vs).length = l.length
 | [], l, i => rfl
 | v :: vs, l, i => by rw [setR, wN vs, List.length_set]
structure RgC (i : Nat) (pv : Nat) (cs : List Value) : Prop where
  len : cs.length = 48
  ci : cs[8]? = some (.int .i64 i)
  cv : cs[13]? = some (pV pv)
theorem RgC.set {i pv : Nat} {cs : List Value} (h : RgC i pv cs) {k : Nat} {v : Value} (h1 : k ≠ 8) (h2 : k ≠ 13) : RgC i pv (cs.set k v) :=
  ⟨by rw [List.length_set]; exact h.len, by rw [List.getElem?_set_ne h1]; exact h.ci, by rw [List.getElem?_set_ne h2]; exact h.cv⟩
theorem RgC.setR {i pv : Nat} {cs : List Value} (h : RgC i pv cs) {k : Nat} {vs : List Value} (h1 : 13 < k) : RgC i pv (setR cs k vs) :=
  ⟨by rw [wN]; exact h.len, by rw [sx _ _ _ _ (by omega)]; exact h.ci, by rw [sx _ _ _ _ (by omega)]; exact h.cv⟩
section
variable {W0 : World} {N : FSz} {K : Act → World → Prop} {e : bQ} {A R : List HP} {b : Nat} {l : List Value} {T : TypeId}
theorem kW [hk : Tk pt b A (ax l T) R] (p : List Value → Prop) (h : p l) (k : ∀ cs, p cs → aT W0 N K e (pt b (ax cs T) :: R)) : aT W0 N K e A := ed (r := pt) (b := b) (k l h)
end
theorem Df (b i : Nat) : aC Tryz.prog W0 311 [pV b] (pt b (ax [.int .u32 0, .int .u32 0, .int .u32 0, .int .u32 0, .int .u32 0, .int .u32 0, .int .u32 0, .int .i64 i] 474) :: R)
    (fun v B => v = .tuple #[] ∧ B = pt b (ax [.int .u32 0, .int .u32 0, .int .u32 0, .int .u32 0, .int .u32 0, .int .u32 4, .int .u32 0, .int .i64 i] 474) :: R) := by
 refine aG func311 ntmps311 rfl rfl ?_
 refine ae (ah (aa rfl (ac rfl) (aa rfl (mY y4 cQ y3 rfl) ?_)))
 refine aa rfl (aF rfl) ?_
 refine aa rfl (al rfl yj rfl lj rfl (by first | exact Nat.zero_add _ | rfl)) ?_
 refine bD (iZ lj rfl rfl rfl rfl (Nat.le_of_ble_eq_true rfl) SetRL.eq) ?_
 rintro _ _ rfl
 refine ag (ab (ah (aa rfl (ac rfl) (aa rfl (aF rfl) ?_))))
 refine aa rfl (al rfl yj rfl lj rfl (by first | exact Nat.zero_add _ | rfl)) ?_
 refine aa rfl (dO y4 cQ rfl rfl rfl (by decide) (by first | exact Nat.zero_add _ | rfl)) ?_
 refine bD (cm cQ rfl rfl rfl (Nat.le_of_ble_eq_true rfl) SetL.eq) ?_
 rintro _ _ rfl
 refine ag (au (.inr rfl) .nil ?_)
 exact ⟨_, ⟨rfl, rfl⟩, inferInstance⟩
theorem Dg (i : Nat) (hi : i < 4) : aC Tryz.prog W0 215 [.int .i64 i] R (fun v B => ∃ b, v = .tuple #[pV b, .int .i64 0] ∧ B = pt b (ax [.int .u32 0, .int .u32 0, .int .u32 0, .int .u32 0, .int .u32 0, .int .u32 4, .int .u32 0, .int .i64 i] 474) :: R) := by
 refine aG func215 ntmps215 rfl rfl ?_
 refine ae (ah (aa rfl (ai rfl) (aa rfl (ai rfl) (ag (ab (ae (ae (ah (aa rfl (ac rfl) (aa rfl (b0 rfl rfl) (aa rfl (ac rfl) ?_)))))))))))
 refine bC rfl rfl rfl ?_ ?_
 intro g1_3
 omega
 intro g1_3
 refine aa rfl (ac rfl) (ar rfl rfl (aa rfl (cK rfl rfl) (aa rfl (aM rfl rfl) (ag (ab ?_)))))
 refine aw rfl ?_ ?_
 intro c1
 omega
 intro c1
 refine aB (ab (ae (ah (aa rfl (ac rfl) (aa rfl (bY yj zeroValue474 (aH lj (aH az bX)) (bq rfl az rfl rfl (Nat.le_of_ble_eq_true rfl) SetL.eq bW)) ?_)))))
 refine am rfl (bJ rfl) ?_
 rintro _ _ ⟨b, rfl, rfl⟩
 refine aa rfl (ai rfl) (ag (ab (ae (ah (aa rfl (ac rfl) (am rfl (bn call311 rfl (Df b i)) ?_))))))
 rintro _ B_ ⟨rfl, hB_⟩
 obtain rfl := hB_.symm
 refine ag (ab (ae (ah (aa rfl (ac rfl) (aa rfl (ai rfl) (aa rfl (ai rfl) (ag (ab (av (au (.inl rfl) (.cons (ak rfl) (.cons (ak rfl) .nil)) ?_))))))))))
 exact ⟨_, ⟨_, rfl, rfl⟩, inferInstance⟩
theorem Dh (W0 : World) (R : List HP) (c : Cfg) (h : CfK W0 c) (hr : rt c = true) (i : Nat) (hi : i < c.gl.length) (gb pv pm pb qs : Nat) (fr : List bZ) (po : Po) (hF : dZ fr) (hP : PoOk po) (hl : po.length = fr.length) (h0 : 0 < fr.length) (hfre : (d5 c i).2.1 ≤ ((bP po i).length : Int))
    (a : Option Addr) (cap : Nat) (ws : List Nat) (hs : ∀ A, cF (bK W0 A) a 1 iR ws) (hb : ∀ y ∈ ws, y < 4294967296) (hn : ws.length < 9223372036854775808) (hcap : ws.length ≤ cap)
    (cs : List Value) (hc : RgC i pv cs) (h1 : cs[1]? = some (.slice c.ga c.gl.length c.gc)) (h9 : cs[9]? = some (.slice a ws.length cap)) (h10 : cs[10]? = some (pV pb)) :
    aC Tryz.prog W0 95 [pV gb] (pt gb (ax cs 234) :: pt pv (lT qs pm 0) :: d6 pb (qs, po) :: cZ qs fr :: pt pm (gv iw) :: R)
      (fun v B => v = .int .i64 0 ∧ ∃ cs', RgC i pv cs' ∧ B = pt gb (ax cs' 234) :: pt pv (lT qs pm 0) :: d6 pb (qs, (eR c i ws fr po).po) :: cZ qs (eR c i ws fr po).fr :: pt pm (gv (eR c i ws fr po).pg) :: R) := by
 have hR := fb hr
 have hg4 := hR.g4
 have hgs := hR.gs i hi
 obtain ⟨g, o, hga, hcc⟩ := (h.ok.g []).at_ hi
 obtain ⟨x, hx⟩ : ∃ x, c.gl[i] = x := ⟨_, rfl⟩
 have hA : d5 c i = x := by simp [d5, List.getD, hi, hx]
 obtain ⟨n, hxn⟩ : ∃ n : Nat, x.2.1 = (n : Int) := ⟨x.2.1.toNat, by rw [hA] at hgs; omega⟩
 have hln : (d5 c i).2.1.toNat = n := by rw [hA, hxn]; rfl
 have hlaid : eR c i ws fr po = d8 i (bO ws n) n ⟨fr, po, iw⟩ := by rw [eR, hln]
 rw [hlaid]
 rw [hx] at hcc
 rw [hA, hxn] at hgs hfre
 have hok : ImOk ⟨fr, po, iw⟩ := ⟨hF, hP, pu, hl⟩
 have hlen := hc.len
 refine aG func95 ntmps95 rfl rfl ?_
 refine ae (ah (aa rfl (ai rfl) (ag (ab (ae ?_)))))
 refine cA [(gb, 0, cs), (pv, 0, _), (g, o + i * 3, dS x)] 40 cz rfl (aK (aK (cW hcc.weak aJ))) (fun hS => ?_)
 refine aj 0 rfl rfl (by kernel_rfl) (by kernel_rfl) (by kernel_rfl) rfl hS (ac rfl) ?_
 refine aj 1 rfl rfl (by kernel_rfl) (by kernel_rfl) (by kernel_rfl) rfl hS (aF rfl) ?_
 refine aj 2 rfl rfl (by kernel_rfl) (by kernel_rfl) (by kernel_rfl) rfl hS (al rfl gj rfl nT rfl (by first | exact Nat.zero_add _ | rfl)) ?_
 refine aj 3 rfl rfl (by kernel_rfl) (by kernel_rfl) (by kernel_rfl) rfl hS (ao isAgg105 rfl (aD (k := 0) rfl h10)) ?_
 refine aj 4 rfl rfl (by kernel_rfl) (by kernel_rfl) (by kernel_rfl) rfl hS (ac rfl) ?_
 refine aj 5 rfl rfl (by kernel_rfl) (by kernel_rfl) (by kernel_rfl) rfl hS (aF rfl) ?_
 refine aj 6 rfl rfl (by kernel_rfl) (by kernel_rfl) (by kernel_rfl) rfl hS (al rfl gj rfl mi rfl (by first | exact Nat.zero_add _ | rfl)) ?_
 refine aj 7 rfl rfl (by kernel_rfl) (by kernel_rfl) (by kernel_rfl) rfl hS (ao tp rfl (aD (k := 0) rfl hc.cv)) ?_
 refine aj 8 rfl rfl (by kernel_rfl) (by kernel_rfl) (by kernel_rfl) rfl hS (aF rfl) ?_
 refine aj 9 rfl rfl (by kernel_rfl) (by kernel_rfl) (by kernel_rfl) rfl hS (al rfl pS rfl jJ rfl (by first | exact Nat.zero_add _ | rfl)) ?_
 refine aj 10 rfl rfl (by kernel_rfl) (by kernel_rfl) (by kernel_rfl) rfl hS (ao tf rfl (aD (k := 1) rfl rfl)) ?_
 refine aj 11 rfl rfl (by kernel_rfl) (by kernel_rfl) (by kernel_rfl) rfl hS (ac rfl) ?_
 refine aj 12 rfl rfl (by kernel_rfl) (by kernel_rfl) (by kernel_rfl) rfl hS (aF rfl) ?_
 refine aj 13 rfl rfl (by kernel_rfl) (by kernel_rfl) (by kernel_rfl) rfl hS (al rfl gj rfl mi rfl (by first | exact Nat.zero_add _ | rfl)) ?_
 refine aj 14 rfl rfl (by kernel_rfl) (by kernel_rfl) (by kernel_rfl) rfl hS (ao tp rfl (aD (k := 0) rfl hc.cv)) ?_
 refine aj 15 rfl rfl (by kernel_rfl) (by kernel_rfl) (by kernel_rfl) rfl hS (aF rfl) ?_
 refine aj 16 rfl rfl (by kernel_rfl) (by kernel_rfl) (by kernel_rfl) rfl hS (al rfl pS rfl pT rfl (by first | exact Nat.zero_add _ | rfl)) ?_
 refine aj 17 rfl rfl (by kernel_rfl) (by kernel_rfl) (by kernel_rfl) rfl hS (ao yk rfl (aD (k := 1) rfl rfl)) ?_
 refine aj 18 rfl rfl (by kernel_rfl) (by kernel_rfl) (by kernel_rfl) rfl hS (ac rfl) ?_
 refine aj 19 rfl rfl (by kernel_rfl) (by kernel_rfl) (by kernel_rfl) rfl hS (aF rfl) ?_
 refine aj 20 rfl rfl (by kernel_rfl) (by kernel_rfl) (by kernel_rfl) rfl hS (al rfl gj rfl az rfl (by first | exact Nat.zero_add _ | rfl)) ?_
 refine aj 21 rfl rfl (by kernel_rfl) (by kernel_rfl) (by kernel_rfl) rfl hS (ao aQ rfl (aD (k := 0) rfl hc.ci)) ?_
 refine aj 22 rfl rfl (by kernel_rfl) (by kernel_rfl) (by kernel_rfl) rfl hS (ac rfl) ?_
 refine aj 23 rfl rfl (by kernel_rfl) (by kernel_rfl) (by kernel_rfl) rfl hS (aF rfl) ?_
 refine aj 24 rfl rfl (by kernel_rfl) (by kernel_rfl) (by kernel_rfl) rfl hS (al rfl gj rfl bN rfl (by first | exact Nat.zero_add _ | rfl)) ?_
 refine aj 25 rfl rfl (by kernel_rfl) (by kernel_rfl) (by kernel_rfl) rfl hS (al rfl bw rfl dD rfl (by first | exact Nat.zero_add _ | rfl)) ?_
 refine aj 26 rfl rfl (by kernel_rfl) (by kernel_rfl) (by kernel_rfl) rfl hS (ao dN rfl (aD (k := 0) rfl h1)) ?_
 refine aj 27 rfl rfl (by kernel_rfl) (by kernel_rfl) (by kernel_rfl) rfl hS (ac rfl) ?_
 refine aj 28 rfl rfl (by kernel_rfl) (by kernel_rfl) (by kernel_rfl) rfl hS (aF rfl) ?_
 refine aj 29 rfl rfl (by kernel_rfl) (by kernel_rfl) (by kernel_rfl) rfl hS (al rfl gj rfl az rfl (by first | exact Nat.zero_add _ | rfl)) ?_
 refine aj 30 rfl rfl (by kernel_rfl) (by kernel_rfl) (by kernel_rfl) rfl hS (ao aQ rfl (aD (k := 0) rfl hc.ci)) ?_
 refine aj 31 rfl rfl (by kernel_rfl) (by kernel_rfl) (by kernel_rfl) rfl hS (dH dq eH rfl hga rfl rfl hi (by first | exact Nat.zero_add _ | rfl)) ?_
 refine aj 32 rfl rfl (by kernel_rfl) (by kernel_rfl) (by kernel_rfl) rfl hS (al rfl dV rfl az rfl (by first | exact Nat.zero_add _ | rfl)) ?_
 refine aj 33 rfl rfl (by kernel_rfl) (by kernel_rfl) (by kernel_rfl) rfl hS (ao aQ rfl (fv (k := 2) (j := 1) rfl (by rw [← hxn]; rfl : (dS x)[1]? = some (.int .i64 (n : Int))))) ?_
 refine aj 34 rfl rfl (by kernel_rfl) (by kernel_rfl) (by kernel_rfl) rfl hS (ac rfl) ?_
 refine aj 35 rfl rfl (by kernel_rfl) (by kernel_rfl) (by kernel_rfl) rfl hS (aF rfl) ?_
 refine aj 36 rfl rfl (by kernel_rfl) (by kernel_rfl) (by kernel_rfl) rfl hS (al rfl gj rfl nL rfl (by first | exact Nat.zero_add _ | rfl)) ?_
 refine aj 37 rfl rfl (by kernel_rfl) (by kernel_rfl) (by kernel_rfl) rfl hS (ao isAgg98 rfl (aD (k := 0) rfl h9)) ?_
 refine bA 38 (by kernel_rfl) rfl rfl (kx call214 rfl (Cc W0 _ pb qs pm i n ⟨fr, po, iw⟩ hok h0 a cap ws (by omega) (by omega) (by omega) wM (by show n ≤ (bP po i).length; omega) (fun A _ => hs A) hb hn hcap)) rfl ?_; clear hS
 rintro _ B_ ⟨rfl, hB_⟩
 obtain rfl := hB_.symm
 refine ⟨(aK (aK (cW hcc.weak aJ))), fun hS => ?_⟩
 refine aj 39 rfl rfl (by kernel_rfl) (by kernel_rfl) (by kernel_rfl) rfl hS (ai rfl) ?_
 refine bL (by kernel_rfl) ?_; clear hS
 refine ab (ae (ae (ah (aa rfl (ac rfl) (aa rfl (bI rfl rfl) (ag (ab ?_)))))))
 refine aw rfl ?_ ?_
 intro c2
 exact absurd c2 (by decide)
 intro c2
 refine aB (ab (ae (ah (aa rfl (ac rfl) (aa rfl (bY underlying380 zeroValue380 (aH iY (aH cQ bX)) bW) ?_)))))
 refine am rfl (bJ rfl) ?_
 rintro _ _ ⟨b1, rfl, rfl⟩
 refine aa rfl (aF rfl) ?_
 refine aa rfl (al rfl gj rfl yl rfl (by first | exact Nat.zero_add _ | rfl)) ?_
 refine bD (cm yl rfl rfl rfl (by rw [hlen]; decide) rfl) ?_
 rintro _ _ rfl
 refine ag (ab (ae ?_))
 refine kW (b := gb) (RgC i pv) (hc.set (by decide) (by decide)) fun cs2 hc2 => ?_
 refine ah (aa rfl (ac rfl) (aa rfl (aF rfl) ?_))
 refine aa rfl (al rfl gj rfl az rfl (by first | exact Nat.zero_add _ | rfl)) ?_
 refine aa rfl (ao aQ rfl (aA hc2.ci)) ?_
 refine am rfl (aU call215 rfl (Dg i (by omega))) ?_
 rintro _ B_ ⟨cb, rfl, hB_⟩
 obtain rfl := hB_.symm
 refine aa rfl (ac rfl) (aa rfl (aS rfl rfl) (aa rfl (aS rfl rfl) (aa rfl (ai rfl) (aa rfl (ai rfl) (ag (ab (ae (ah (aa rfl (ac rfl) (aa rfl (ac rfl) (aa rfl (aF rfl) ?_)))))))))))
 refine aa rfl (al rfl gj rfl ym rfl (by first | exact Nat.zero_add _ | rfl)) ?_
 refine bD (cm ym rfl rfl rfl (by rw [hc2.len]; decide) rfl) ?_
 rintro _ _ rfl
 refine ag (ab (ae ?_))
 refine kW (b := gb) (RgC i pv) (hc2.set (by decide) (by decide)) fun cs3 hc3 => ?_
 refine ah (aa rfl (ac rfl) (aa rfl (mY underlying230 sizeOf229 zeroValue230 rfl) ?_))
 refine aa rfl (aF rfl) ?_
 refine aa rfl (al rfl gj rfl yn rfl (by first | exact Nat.zero_add _ | rfl)) ?_
 refine bD (iZ yn rfl rfl rfl rfl (by rw [hc3.len]; decide) rfl) ?_
 rintro _ _ rfl
 refine ag (ab (ae ?_))
 refine kW (b := gb) (RgC i pv) (hc3.setR (by decide)) fun cs4 hc4 => ?_
 refine ah (aa rfl (ac rfl) (aa rfl (bY underlying385 zeroValue385 (aH dh (aH sizeOf383 (aH sizeOf331 bX))) bW) ?_))
 refine am rfl (bJ rfl) ?_
 rintro _ _ ⟨b2, rfl, rfl⟩
 refine aa rfl (aF rfl) ?_
 refine aa rfl (al rfl gj rfl yo rfl (by first | exact Nat.zero_add _ | rfl)) ?_
 refine bD (cm yo rfl rfl rfl (by rw [hc4.len]; decide) rfl) ?_
 rintro _ _ rfl
 refine ag (ab (ae ?_))
 refine kW (b := gb) (RgC i pv) (hc4.set (by decide) (by decide)) fun cs5 hc5 => ?_
 refine ah (aa rfl (ac rfl) (aa rfl (bY underlying388 zeroValue388 (aH sizeOf386 bX) bW) ?_))
 refine am rfl (bJ rfl) ?_
 rintro _ _ ⟨b3, rfl, rfl⟩
 refine aa rfl (aF rfl) ?_
 refine aa rfl (al rfl gj rfl yp rfl (by first | exact Nat.zero_add _ | rfl)) ?_
 refine bD (cm yp rfl rfl rfl (by rw [hc5.len]; decide) rfl) ?_
 rintro _ _ rfl
 refine ag (ab (ae ?_))
 refine kW (b := gb) (RgC i pv) (hc5.set (by decide) (by decide)) fun cs6 hc6 => ?_
 refine ah (aa rfl (ac rfl) (aa rfl (aF rfl) ?_))
 refine aa rfl (al rfl gj rfl cB rfl (by first | exact Nat.zero_add _ | rfl)) ?_
 refine bD (cm cB rfl rfl rfl (by rw [hc6.len]; decide) rfl) ?_
 rintro _ _ rfl
 refine ag (ab (ae ?_))
 refine kW (b := gb) (RgC i pv) (hc6.set (by decide) (by decide)) fun cs7 hc7 => ?_
 refine ah (aa rfl (ac rfl) (aa rfl (mY ij cQ mj rfl) ?_))
 refine aa rfl (aF rfl) ?_
 refine aa rfl (al rfl gj rfl ec rfl (by first | exact Nat.zero_add _ | rfl)) ?_
 refine bD (iZ ec rfl rfl rfl rfl (by rw [hc7.len]; decide) rfl) ?_
 rintro _ _ rfl
 refine ag (ab (ae ?_))
 refine kW (b := gb) (RgC i pv) (hc7.setR (by decide)) fun cs8 hc8 => ?_
 refine ah (aa rfl (ai rfl) (ag (ab (av (au (.inl rfl) (.cons (ak rfl) .nil) ?_)))))
 exact ⟨_, ⟨rfl, cs8, hc8, rfl⟩, inferInstance⟩
@[reducible] def sy (c : Cfg) (i : Nat) (wv : Value) (pb bb : Nat) : List Value := [.int .i64 c.cats, .slice c.ga c.gl.length c.gc, .slice c.ra c.rl.length c.rc, .slice c.pa c.pl.length c.pc, .slice c.na c.nl.length c.nc, .slice c.sa c.sl.length c.sc, .int .i64 c.gate, .int .i64 c.quota, .int .i64 i, wv, pV pb, .pointer none, .pointer none, .pointer none, .int .u32 0, .int .u32 0, .int .u32 0, .int .i64 0, .bool false, .int .i64 0, .int .i64 0, .int .i64 0, .int .u32 0, .int .u32 0, .int .u32 0, .int .i64 0, .bool false, .int .i64 0, .int .i64 0, .int .i64 0, .int .u32 0, .int .u32 0, .int .u32 0, .int .i64 0, .bool false, .int .i64 0, .int .i64 0, .int .i64 0, .pointer none, .pointer none, pV bb, .slice none 0 0, .int .i64 0, .bool false, .int .u32 0, .int .u32 0, .int .u32 0, .int .u32 0]
theorem Di {S : World → Prop} {N : FSz} {e : bQ} {o0 o1 o2 o3 o4 : Operand} {i pb bb : Nat} {c : Cfg} {wv : Value} (hw : wv.oneCell' = true) (h0 : ev e o0 = some (.agg (bU c).toArray)) (h1 : ev e o1 = some (.int .i64 i)) (h2 : ev e o2 = some wv) (h3 : ev e o3 = some (pV pb)) (h4 : ev e o4 = some (pV bb)) :
    cC Tryz.prog S N e (.build 234 #[(0, o0), (1, o1), (2, o2), (3, o3), (10, o4)]) (.agg (sy c i wv pb bb).toArray) :=
  bY (l' := sy c i wv pb bb) gj zeroValue234 (aH bN (aH az (aH nL (aH nT (aH yl (aH ym (aH mi (aH yn (aH yo (aH yp (aH sizeOf217 (aH ko (aH az (aH cB (aH ec bX)))))))))))))))
    (im (l' := [.int .i64 c.cats, .slice c.ga c.gl.length c.gc, .slice c.ra c.rl.length c.rc, .slice c.pa c.pl.length c.pc, .slice c.na c.nl.length c.nc, .slice c.sa c.sl.length c.sc, .int .i64 c.gate, .int .i64 c.quota, .int .i64 0, .slice none 0 0, .pointer none, .pointer none, .pointer none, .pointer none, .int .u32 0, .int .u32 0, .int .u32 0, .int .i64 0, .bool false, .int .i64 0, .int .i64 0, .int .i64 0, .int .u32 0, .int .u32 0, .int .u32 0, .int .i64 0, .bool false, .int .i64 0, .int .i64 0, .int .i64 0, .int .u32 0, .int .u32 0, .int .u32 0, .int .i64 0, .bool false, .int .i64 0, .int .i64 0, .int .i64 0, .pointer none, .pointer none, .pointer none, .slice none 0 0, .int .i64 0, .bool false, .int .u32 0, .int .u32 0, .int .u32 0, .int .u32 0]) rfl bN h0 rfl (Nat.le_of_ble_eq_true rfl) rfl
    (bq (l' := [.int .i64 c.cats, .slice c.ga c.gl.length c.gc, .slice c.ra c.rl.length c.rc, .slice c.pa c.pl.length c.pc, .slice c.na c.nl.length c.nc, .slice c.sa c.sl.length c.sc, .int .i64 c.gate, .int .i64 c.quota, .int .i64 i, .slice none 0 0, .pointer none, .pointer none, .pointer none, .pointer none, .int .u32 0, .int .u32 0, .int .u32 0, .int .i64 0, .bool false, .int .i64 0, .int .i64 0, .int .i64 0, .int .u32 0, .int .u32 0, .int .u32 0, .int .i64 0, .bool false, .int .i64 0, .int .i64 0, .int .i64 0, .int .u32 0, .int .u32 0, .int .u32 0, .int .i64 0, .bool false, .int .i64 0, .int .i64 0, .int .i64 0, .pointer none, .pointer none, .pointer none, .slice none 0 0, .int .i64 0, .bool false, .int .u32 0, .int .u32 0, .int .u32 0, .int .u32 0]) rfl az h1 rfl (Nat.le_of_ble_eq_true rfl) rfl
    (bq (l' := [.int .i64 c.cats, .slice c.ga c.gl.length c.gc, .slice c.ra c.rl.length c.rc, .slice c.pa c.pl.length c.pc, .slice c.na c.nl.length c.nc, .slice c.sa c.sl.length c.sc, .int .i64 c.gate, .int .i64 c.quota, .int .i64 i, wv, .pointer none, .pointer none, .pointer none, .pointer none, .int .u32 0, .int .u32 0, .int .u32 0, .int .i64 0, .bool false, .int .i64 0, .int .i64 0, .int .i64 0, .int .u32 0, .int .u32 0, .int .u32 0, .int .i64 0, .bool false, .int .i64 0, .int .i64 0, .int .i64 0, .int .u32 0, .int .u32 0, .int .u32 0, .int .i64 0, .bool false, .int .i64 0, .int .i64 0, .int .i64 0, .pointer none, .pointer none, .pointer none, .slice none 0 0, .int .i64 0, .bool false, .int .u32 0, .int .u32 0, .int .u32 0, .int .u32 0]) rfl nL h2 hw (Nat.le_of_ble_eq_true rfl) rfl
    (bq (l' := [.int .i64 c.cats, .slice c.ga c.gl.length c.gc, .slice c.ra c.rl.length c.rc, .slice c.pa c.pl.length c.pc, .slice c.na c.nl.length c.nc, .slice c.sa c.sl.length c.sc, .int .i64 c.gate, .int .i64 c.quota, .int .i64 i, wv, pV pb, .pointer none, .pointer none, .pointer none, .int .u32 0, .int .u32 0, .int .u32 0, .int .i64 0, .bool false, .int .i64 0, .int .i64 0, .int .i64 0, .int .u32 0, .int .u32 0, .int .u32 0, .int .i64 0, .bool false, .int .i64 0, .int .i64 0, .int .i64 0, .int .u32 0, .int .u32 0, .int .u32 0, .int .i64 0, .bool false, .int .i64 0, .int .i64 0, .int .i64 0, .pointer none, .pointer none, .pointer none, .slice none 0 0, .int .i64 0, .bool false, .int .u32 0, .int .u32 0, .int .u32 0, .int .u32 0]) rfl nT h3 rfl (Nat.le_of_ble_eq_true rfl) rfl
    (bq (l' := [.int .i64 c.cats, .slice c.ga c.gl.length c.gc, .slice c.ra c.rl.length c.rc, .slice c.pa c.pl.length c.pc, .slice c.na c.nl.length c.nc, .slice c.sa c.sl.length c.sc, .int .i64 c.gate, .int .i64 c.quota, .int .i64 i, wv, pV pb, .pointer none, .pointer none, .pointer none, .int .u32 0, .int .u32 0, .int .u32 0, .int .i64 0, .bool false, .int .i64 0, .int .i64 0, .int .i64 0, .int .u32 0, .int .u32 0, .int .u32 0, .int .i64 0, .bool false, .int .i64 0, .int .i64 0, .int .i64 0, .int .u32 0, .int .u32 0, .int .u32 0, .int .i64 0, .bool false, .int .i64 0, .int .i64 0, .int .i64 0, .pointer none, .pointer none, pV bb, .slice none 0 0, .int .i64 0, .bool false, .int .u32 0, .int .u32 0, .int .u32 0, .int .u32 0]) rfl sizeOf217 h4 rfl (Nat.le_of_ble_eq_true rfl) rfl
    bW)))))
theorem sB {R : List HP} {qs c : Nat} {a : Option Addr} {fr : List bZ} {vs : List Value} (hv : vs.length = fr.length) : Ent (pt qs (ax [.slice a fr.length c] 193) :: osl 174 1 (.slice a fr.length c) vs :: ((vs.zip fr).map e9 ++ R)) (cZ qs fr :: R) := kR (vs := vs) hv rfl
theorem Dj (W0 : World) (R : List HP) (c : Cfg) (h : CfK W0 c) (hr : rt c = true) (i : Nat) (hi : i < c.gl.length) (qs pb : Nat) (fr : List bZ) (po : Po) (hF : dZ fr) (hP : PoOk po) (hl : po.length = fr.length) (h0 : 0 < fr.length) (hfre : (d5 c i).2.1 ≤ ((bP po i).length : Int))
    (a : Option Addr) (cap : Nat) (ws : List Nat) (hs : ∀ A, cF (bK W0 A) a 1 iR ws) (hb : ∀ y ∈ ws, y < 4294967296) (hn : ws.length < 9223372036854775808) (hcap : ws.length ≤ cap) :
    aC Tryz.prog W0 34 [.agg (bU c).toArray, .int .i64 i, pV qs, pV pb, .slice a ws.length cap] (d6 pb (qs, po) :: cZ qs fr :: R)
      (fun v B => ∃ gb, v = .tuple #[pV gb, .int .i64 0] ∧ B = d6 pb (qs, (eR c i ws fr po).po) :: cZ qs (eR c i ws fr po).fr :: R) := by
 have hR := fb hr
 have hg4 := hR.g4
 have hnn := hR.nn
 have hok1 : ImOk (eR c i ws fr po) := kJ (by omega) ⟨hF, hP, pu, hl⟩
 refine aG func34 ntmps34 rfl rfl ?_
 refine ae (ah (am rfl (bJ rfl) ?_))
 rintro _ _ ⟨b5, rfl, rfl⟩
 refine aa rfl (ai rfl) (aa rfl (ai rfl) (ag (ab (ae (ae (ah (aa rfl (cp cn bN rfl rfl) ?_)))))))
 refine am rfl (aU ti rfl (p7 W0 _ c h.ok)) ?_
 rintro _ B_ ⟨rfl, hB_⟩
 obtain rfl := hB_.symm
 rw [hr]
 refine aa rfl (bM rfl) (aa rfl (ac rfl) ?_)
 refine bC rfl rfl rfl ?_ ?_
 intro g1_4
 exact absurd g1_4 (by decide)
 intro g1_4
 refine aa rfl (ac rfl) (ar rfl rfl (aa rfl (b0 rfl rfl) (aa rfl (aM rfl rfl) (aa rfl (ac rfl) ?_))))
 refine bC rfl rfl rfl ?_ ?_
 intro g1_8
 omega
 intro g1_8
 refine aa rfl (ac rfl) (ar rfl rfl ?_)
 refine aa rfl (al rfl bw rfl dD rfl (by first | exact Nat.zero_add _ | rfl)) ?_
 refine ar rfl rfl (aa rfl (ao dN rfl (aA rfl)) ?_)
 refine ar rfl rfl (aa rfl (bu dq rfl) (ar rfl rfl (aa rfl (cK rfl rfl) (aa rfl (aM rfl rfl) (ag (ab ?_))))))
 refine aw rfl ?_ ?_
 intro c1
 omega
 intro c1
 refine aB (ab (ae (ae ?_)))
 refine kQ (qs := qs) fun a2 c2 vs hv => ?_
 refine ah (aa rfl (ac rfl) (aa rfl (dv Fl rfl rfl) (aa rfl (ac rfl) ?_)))
 refine bC rfl rfl rfl ?_ ?_
 intro g3_3
 cases g3_3
 intro g3_3
 refine aa rfl (ac rfl) (ar rfl rfl (aa rfl (aF rfl) (ar rfl rfl ?_)))
 refine aa rfl (al rfl iD rfl gJ rfl (by first | exact Nat.zero_add _ | rfl)) ?_
 refine ar rfl rfl (aa rfl (ao jc rfl (aA rfl)) ?_)
 refine ar rfl rfl (aa rfl (bu ig rfl) (ar rfl rfl (aa rfl (cu rfl rfl) (aa rfl (aM rfl rfl) (aa rfl (ac rfl) ?_)))))
 refine bC rfl rfl rfl ?_ ?_
 intro g3_11
 omega
 intro g3_11
 refine aa rfl (ac rfl) (ar rfl rfl (aa rfl (dv underlying105 rfl rfl) (aa rfl (aM rfl rfl) (ag (ab ?_)))))
 refine aw rfl ?_ ?_
 intro c3
 cases c3
 intro c3
 refine aB (ab (ae (f9 (sB hv) ?_)))
 refine ah (aa rfl (cp cn bN rfl rfl) ?_)
 refine aa rfl (ac rfl) (aa rfl (ac rfl) (aa rfl (ac rfl) (aa rfl (bY underlying220 zeroValue220 (aH mb bX) bW) ?_)))
 refine am rfl (bJ rfl) ?_
 rintro _ _ ⟨bb, rfl, rfl⟩
 refine aa rfl (Di rfl rfl rfl rfl rfl rfl) ?_
 refine am rfl (bJ rfl) ?_
 rintro _ _ ⟨gb, rfl, rfl⟩
 refine aa rfl (ai rfl) (ag (ab (ae (ah (aa rfl (ac rfl) (aa rfl (ac rfl) (aa rfl (bY nK zeroValue241 (aH pN (aH m9 bX)) bW) ?_)))))))
 refine am rfl (bJ rfl) ?_
 rintro _ _ ⟨pm, rfl, rfl⟩
 refine aa rfl (bY pS zeroValue243 (aH jJ (aH pT (aH pN bX))) (bq rfl jJ rfl rfl (Nat.le_of_ble_eq_true rfl) SetL.eq (bq rfl pT rfl rfl (Nat.le_of_ble_eq_true rfl) SetL.eq bW))) ?_
 refine am rfl (bJ rfl) ?_
 rintro _ _ ⟨pv, rfl, rfl⟩
 refine aa rfl (aF rfl) ?_
 refine aa rfl (al rfl gj rfl mi rfl (by first | exact Nat.zero_add _ | rfl)) ?_
 refine bD (cm mi rfl rfl rfl (Nat.le_of_ble_eq_true rfl) SetL.eq) ?_
 rintro _ _ rfl
 refine ag (ab (ae (iJ (b := pm) (o' := gv iw) rfl ?_)))
 refine iJ (b := pv) (o' := lT qs pm 0) rfl ?_
 refine iJ (b := gb) (o' := ax ((sy c i (.slice a ws.length cap) pb bb).set 13 (pV pv)) 234) rfl ?_
 refine ah (aa rfl (ac rfl) (am rfl (qT call95 rfl (Dh W0 _ c h hr i hi gb pv pm pb qs fr po hF hP hl h0 hfre a cap ws hs hb hn hcap _ ⟨rfl, rfl, rfl⟩ rfl rfl rfl)) ?_))
 rintro _ _ ⟨rfl, cs, hcs, rfl⟩
 refine aa rfl (ai rfl) (ag (ab (ae (ae (ah (aa rfl (ac rfl) (aa rfl (bI rfl rfl) (ag (ab ?_)))))))))
 refine aw rfl ?_ ?_
 intro c8
 exact absurd c8 (by decide)
 intro c8
 refine aB (ab (ae (ae (ah (aa rfl (ai rfl) (ag (ab (aW ?_))))))))
 refine cT (fun X : Nat × List Pl => X.1 ≤ c.nl.length ∧ Pgs X.2) (fun X => [(1, .int .i64 i), (5, pV b5), (12, pV gb), (14, .int .i64 X.1)]) (fun X => pt b5 (dd c) :: pt gb (ax cs 234) :: pt pv (lT qs pm 0) :: pt pm (gv X.2) :: d6 pb (qs, (eR c i ws fr po).po) :: cZ qs (eR c i ws fr po).fr :: R) (fun X => c.nl.length - X.1) (0, (eR c i ws fr po).pg) ?_ ?_ ?_ ?_
 exact ⟨Nat.zero_le _, hok1.pg⟩
 · repeat (first | exact aX | refine aV rfl ?_)
 exact inferInstance
 intro ⟨k, pg⟩ ⟨hk, hpg⟩
 dsimp only at hk hpg ⊢
 refine ae (ae (ah (aa rfl (ac rfl) ?_)))
 refine aa rfl (al rfl bw rfl eV rfl (by first | exact Nat.zero_add _ | rfl)) ?_
 refine aa rfl (ao ff rfl (aA rfl)) ?_
 refine aa rfl (bu eI rfl) (aa rfl (b0 rfl rfl) (ag (ab ?_)))
 refine aw rfl ?_ ?_
 intro c11
 refine aB (ab ?_)
 refine gM (fun pg3 : List Pl => Pgs pg3 ∧ k < c.nl.length) (fun _ => [(1, .int .i64 i), (5, pV b5), (12, pV gb), (14, .int .i64 k)]) (fun pg3 => pt b5 (dd c) :: pt gb (ax cs 234) :: pt pv (lT qs pm 0) :: pt pm (gv pg3) :: d6 pb (qs, (eR c i ws fr po).po) :: cZ qs (eR c i ws fr po).fr :: R) ?_ ?_
 skip
 refine aW (ae ?_)
 have hk1 : k < c.nl.length := by omega
 obtain ⟨g, o, hga, hc⟩ := (h.ok.n []).at_ hk1
 obtain ⟨x, hx⟩ : ∃ x, c.nl[k] = x := ⟨_, rfl⟩
 rw [hx] at hc
 refine ah (aa rfl (cp cn bN rfl rfl) ?_)
 refine aa rfl (ac rfl) ?_
 refine am rfl (aU call96 rfl (CC W0 _ c h.ok hr k (by omega) (by omega))) ?_
 rintro _ B_ ⟨rfl, hB_⟩
 obtain rfl := hB_.symm
 refine aa rfl (ai rfl) (ag (ab ?_))
 refine gM (fun pg2 : List Pl => Pgs pg2 ∧ k < c.nl.length) (fun _ => [(1, .int .i64 i), (5, pV b5), (12, pV gb), (14, .int .i64 k), (15, .int .i64 (fV c k))]) (fun pg2 => pt b5 (dd c) :: pt gb (ax cs 234) :: pt pv (lT qs pm 0) :: pt pm (gv pg2) :: d6 pb (qs, (eR c i ws fr po).po) :: cZ qs (eR c i ws fr po).fr :: R) ?_ ?_
 skip
 refine ae (ah ?_)
 refine aa rfl (al rfl bw rfl eV rfl (by first | exact Nat.zero_add _ | rfl)) ?_
 refine aa rfl (ao ff rfl (aA rfl)) ?_
 refine aa rfl (ac rfl) ?_
 refine aa rfl (dH eI ei rfl hga rfl rfl hk1 (by first | exact Nat.zero_add _ | rfl)) ?_
 refine aa rfl (al rfl et rfl az rfl (by first | exact Nat.zero_add _ | rfl)) ?_
 refine aa rfl (ao aQ rfl (hc.weak 0 _ rfl)) ?_
 refine aa rfl (ac rfl) (aa rfl (cu rfl rfl) (ag (ab ?_)))
 refine aw rfl ?_ ?_
 intro c14
 refine ah (aa rfl (ac rfl) (aa rfl (aF rfl) ?_))
 refine aa rfl (al rfl gj rfl mi rfl (by first | exact Nat.zero_add _ | rfl)) ?_
 refine aa rfl (ao tp rfl (aA hcs.cv)) ?_
 refine aa rfl (aF rfl) ?_
 refine aa rfl (al rfl pS rfl pT rfl (by first | exact Nat.zero_add _ | rfl)) ?_
 refine aa rfl (ao yk rfl (aA rfl)) ?_
 refine aa rfl (ac rfl) ?_
 refine aa rfl (bF rfl rfl (by rw [aZ (by omega)]; omega : IntKind.wrap .i64 (8 + (k : Int)) = ((8 + k : Nat) : Int))) ?_
 refine aa rfl (ac rfl) (aa rfl (bY gI jb (aH az (aH az bX)) (bq rfl az rfl rfl (Nat.le_of_ble_eq_true rfl) SetL.eq (bq rfl az rfl rfl (Nat.le_of_ble_eq_true rfl) SetL.eq bW))) ?_)
 refine am rfl (bn xV rfl (rX pm pg hpg (8 + k : Nat) (fV c k, 3))) ?_
 rintro _ B_ ⟨rfl, hB_⟩
 obtain rfl := hB_.symm
 refine ag (ab ?_)
 refine dz (ew pg ((8 + k : Nat) : Int) (fV c k, 3)) ?_ ?_ ?_
 exact ⟨oA hpg, hk1⟩
 · repeat (first | exact aX | refine aV rfl ?_)
 exact inferInstance
 intro c14
 refine aB (ab ?_)
 refine dz pg ?_ ?_ ?_
 exact ⟨hpg, hk1⟩
 · repeat (first | exact aX | refine aV rfl ?_)
 exact inferInstance
 intro pg2 ⟨hpg2, hk1⟩
 refine ae ?_
 obtain ⟨g, o, hga, hc⟩ := (h.ok.n []).at_ hk1
 obtain ⟨x, hx⟩ : ∃ x, c.nl[k] = x := ⟨_, rfl⟩
 rw [hx] at hc
 refine ah ?_
 refine aa rfl (al rfl bw rfl eV rfl (by first | exact Nat.zero_add _ | rfl)) ?_
 refine aa rfl (ao ff rfl (aA rfl)) ?_
 refine aa rfl (ac rfl) ?_
 refine aa rfl (dH eI ei rfl hga rfl rfl hk1 (by first | exact Nat.zero_add _ | rfl)) ?_
 refine aa rfl (al rfl et rfl az rfl (by first | exact Nat.zero_add _ | rfl)) ?_
 refine aa rfl (ao aQ rfl (hc.weak 1 _ rfl)) ?_
 refine aa rfl (ac rfl) (aa rfl (cu rfl rfl) (ag (ab ?_)))
 refine aw rfl ?_ ?_
 intro c16
 refine ah (aa rfl (ac rfl) (aa rfl (aF rfl) ?_))
 refine aa rfl (al rfl gj rfl mi rfl (by first | exact Nat.zero_add _ | rfl)) ?_
 refine aa rfl (ao tp rfl (aA hcs.cv)) ?_
 refine aa rfl (aF rfl) ?_
 refine aa rfl (al rfl pS rfl pT rfl (by first | exact Nat.zero_add _ | rfl)) ?_
 refine aa rfl (ao yk rfl (aA rfl)) ?_
 refine aa rfl (ac rfl) ?_
 refine aa rfl (bF rfl rfl (by rw [aZ (by omega)]; omega : IntKind.wrap .i64 (8 + (k : Int)) = ((8 + k : Nat) : Int))) ?_
 refine aa rfl (ac rfl) (aa rfl (bY gI jb (aH az (aH az bX)) (bq rfl az rfl rfl (Nat.le_of_ble_eq_true rfl) SetL.eq (bq rfl az rfl rfl (Nat.le_of_ble_eq_true rfl) SetL.eq bW))) ?_)
 refine am rfl (bn xV rfl (rX pm pg2 hpg2 (8 + k : Nat) (fV c k, 1))) ?_
 rintro _ B_ ⟨rfl, hB_⟩
 obtain rfl := hB_.symm
 refine ag (bH (ab ?_))
 refine dz (ew pg2 ((8 + k : Nat) : Int) (fV c k, 1)) ?_ ?_ ?_
 exact ⟨oA hpg2, hk1⟩
 · repeat (first | exact aX | refine aV rfl ?_)
 exact inferInstance
 intro c16
 refine aB (bH (ab ?_))
 refine dz pg2 ?_ ?_ ?_
 exact ⟨hpg2, hk1⟩
 · repeat (first | exact aX | refine aV rfl ?_)
 exact inferInstance
 intro pg3 ⟨hpg3, hk1⟩
 refine ah (aa rfl (ac rfl) ?_)
 refine aa rfl (bF rfl rfl (by first | exact aZ (by omega) | rfl)) ?_
 refine aa rfl (ai rfl) (ag (ab ?_))
 refine cG (k + 1, pg3) ?_ ?_ ?_ ?_
 exact ⟨by omega, hpg3⟩
 show c.nl.length - (k + 1) < c.nl.length - k; omega
 · repeat (first | exact aX | refine aV rfl ?_)
 exact inferInstance
 intro c11
 refine cj (bi (bi (co (ab (ae (ah (aa rfl (ac rfl) (aa rfl (ai rfl) (aa rfl (ai rfl) (ag (ab (av (au (.inl rfl) (.cons (ak rfl) (.cons (ak rfl) .nil)) ?_)))))))))))))
 exact ⟨_, ⟨gb, rfl, rfl⟩, inferInstance⟩
def nw (ps : List Prt) : Prop := lL ps ∧ ∀ x ∈ ps, ∀ s ∈ x.l, s.size ≤ 32
theorem nw.at_ {ps : List Prt} (h : nw ps) {i : Nat} (hi : i < ps.length) : ∀ s ∈ (ps.getD i default).l, s.size ≤ 32 := by
 rw [show ps.getD i default = ps[i] by simp [List.getD, hi]]; exact h.2 _ (List.getElem_mem hi)
theorem nw.set {ps : List Prt} (h : nw ps) {i : Nat} {x : Prt} (hx : x.l.length ≤ oN x) (hs : ∀ s ∈ x.l, s.size ≤ 32) : nw (ps.set i x) := ⟨h.1.set hx, fun y hy => by
 rcases List.mem_or_eq_of_mem_set hy with q | q
 exact h.2 y q
 rw [q]; exact hs⟩
structure SvS where
  fr : List bZ
  d : Nat
  s : QS
  ps : List Prt
  c : Nat
  n : Nat
  b : Nat
  w : Int
@[reducible] def SvS.v (x : SvS) : List Value := [.int .i64 x.c, .int .i64 x.n, .int .i64 x.b, .int .i64 x.w]
structure SbS where
  fr : List bZ
  d : Nat
  s : QS
  x : Dk
  c : Nat
  n : Nat
  b : Nat
  w : Int
@[reducible] def SbS.v (x : SbS) : List Value := [.int .i64 x.c, .int .i64 x.n, .int .i64 x.b, .int .i64 x.w]
def kb (x : Rn) : List Value := [.int .i64 x.1, .int .i64 x.2.1, .int .i64 x.2.2]
def eS (rs : List Rn) : Nat → Option (List Rn × List Int)
 | 0 => some ([], [])
 | k + 1 => (eS rs k).bind fun y => if dG (rs.getD k (0, 0, 0)).1 = true ∧ dB y.1 32 (rs.getD k (0, 0, 0)).2.1 (rs.getD k (0, 0, 0)).2.2 k = 0 then some (eh y.1 32 (rs.getD k (0, 0, 0)).2.1 (rs.getD k (0, 0, 0)).2.2 k, y.2 ++ [(rs.getD k (0, 0, 0)).1]) else none
def eT (rs : List Rn) : Option Dk := if 8 < rs.length then none else (eS rs rs.length).map fun y => ⟨y.1, y.2, List.replicate 32 gS⟩
theorem px {rs : List Rn} {i : Nat} (h : eS rs i = none) : ∀ {k : Nat}, i ≤ k → eS rs k = none := by
 intro k hk
 induction k with
 | zero => rwa [show i = 0 by omega] at h
 | succ k ih =>
  rcases Nat.lt_or_ge i (k + 1) with q | q
  rw [eS, ih (by omega)]; rfl
  rwa [show i = k + 1 by omega] at h
theorem Dl {rs : List Rn} {n f k w m : Int} (h : ∀ x ∈ rs, 0 ≤ x.2.2 ∧ x.2.2 < m) (hm : 0 ≤ w ∧ w ≤ m) : ∀ x ∈ eh rs n f k w, 0 ≤ x.2.2 ∧ x.2.2 < m + 1 := by
 unfold eh; split
 intro x hx
 rw [fR] at hx
 rcases List.mem_append.1 hx with q | q
 have := h x (List.mem_of_mem_take q); omega
 rcases List.mem_cons.1 q with rfl | q
 show 0 ≤ w ∧ w < m + 1; omega
 have := h x (List.mem_of_mem_drop q); omega
 intro x hx
 have := h x hx; omega
structure DnOk (k : Nat) (y : List Rn × List Int) : Prop where
  tb : j5 y.1
  rl : y.1.length ≤ k
  ll : y.2.length = k
  wh : ∀ x ∈ y.1, 0 ≤ x.2.2 ∧ x.2.2 < (k : Int)
theorem wO (rs : List Rn) : ∀ {k : Nat} {y : List Rn × List Int}, eS rs k = some y → DnOk k y
 | 0, y, h => by cases h; exact ⟨fun x hx => by simp at hx, Nat.le_refl _, rfl, fun x hx => by simp at hx⟩
 | k + 1, y, h => by
  rw [eS] at h
  cases e : eS rs k with
  | none => rw [e] at h; cases h
  | some z =>
   rw [e] at h
   obtain ⟨h1, h2, h3, h4⟩ := wO rs e
   have h' : (if dG (rs.getD k (0, 0, 0)).1 = true ∧ dB z.1 32 (rs.getD k (0, 0, 0)).2.1 (rs.getD k (0, 0, 0)).2.2 k = 0 then some (eh z.1 32 (rs.getD k (0, 0, 0)).2.1 (rs.getD k (0, 0, 0)).2.2 k, z.2 ++ [(rs.getD k (0, 0, 0)).1]) else none) = some y := h
   split at h'
   cases h'
   refine ⟨rI h1 (by decide), Nat.le_trans vo (by omega), by rw [List.length_append, h3]; rfl, fun x hx => ?_⟩
   have := Dl h4 (by omega) x hx
   omega
   cases h'
theorem Dm : nk (List.replicate 32 gS) = fun _ => none := by
 funext k
 unfold nk rY
 have e : (List.replicate 32 gS).getD k.toNat gS = gS := by
  simp only [List.getD, List.getElem?_replicate]
  split <;> rfl
 rw [e, if_pos rfl]; simp
theorem Dn (a : Option Addr) (c : Nat) (rs : List Rn) (hs : cF (bK W0 R) a 3 kb rs) (hl : rs.length < 9223372036854775808) :
    aC Tryz.prog W0 124 [.slice a rs.length c] R
      (fun v B => ∃ p Y, v = .tuple #[.pointer p, .int .i64 (if (eT rs).isSome then 0 else 14)] ∧ B = Y ++ R ∧ (eT rs = none → p = none ∧ Y = []) ∧ (∀ x, eT rs = some x → ∃ d, p = some ⟨d, 0, none⟩ ∧ Y = [jY d x])) := by
 have hno : ∀ {p : Option Addr} {Y : List HP} (h : eT rs = none), p = none → Y = [] → (eT rs = none → p = none ∧ Y = []) ∧ (∀ x, eT rs = some x → ∃ d, p = some ⟨d, 0, none⟩ ∧ Y = [jY d x]) := fun h h1 h2 => ⟨fun _ => ⟨h1, h2⟩, fun x hx => by rw [h] at hx; cases hx⟩
 refine aG func124 ntmps124 rfl rfl ?_
 refine ae (ah (aa rfl (ai rfl) (aa rfl (ai rfl) (ag (ab (ae (ae (ah (aa rfl (ac rfl) (aa rfl (bu gi rfl) (aa rfl (cy rfl rfl) (ag (ab ?_)))))))))))))
 refine aw rfl ?_ ?_
 intro c1
 refine ae (ah (aa rfl (ai rfl) (aa rfl (ai rfl) (ag (ab (av (aE (au (.inl rfl) (.cons (ak rfl) (.cons (ak rfl) .nil)) ?_))))))))
 have hN : eT rs = none := by rw [eT, if_pos (by omega)]
 rw [hN]
 refine ⟨_, ⟨none, [], rfl, rfl, hno hN rfl rfl |>.1 |> fun q => (fun _ => ⟨rfl, rfl⟩), (fun x hx => by cases hx)⟩, ?_⟩
 simp only [List.nil_append]
 exact inferInstance
 intro c1
 refine aB (ab (ae ?_))
 have h8 : rs.length ≤ 8 := by omega
 have hD : eT rs = (eS rs rs.length).map fun y => ⟨y.1, y.2, List.replicate 32 gS⟩ := by rw [eT, if_neg (by omega)]
 refine ah ?_
 refine am rfl (aU call247 rfl (vn 32 (by decide))) ?_
 rintro _ B_ ⟨bt, rfl, hB_⟩
 obtain rfl := hB_.symm
 refine aa rfl (ac rfl) (aa rfl (aS rfl rfl) (aa rfl (aS rfl rfl) (aa rfl (ai rfl) (aa rfl (ai rfl) (ag (ab (ae (ah (aa rfl (ac rfl) (am rfl (Bf) ?_))))))))))
 rintro _ _ ⟨bm, rfl, rfl⟩
 refine aa rfl (bY tq zeroValue425 (aH xK (aH dh (aH sizeOf423 bX))) (bq rfl xK rfl rfl (Nat.le_of_ble_eq_true rfl) SetL.eq (bq rfl sizeOf423 rfl rfl (Nat.le_of_ble_eq_true rfl) SetL.eq bW))) ?_
 refine am rfl (bJ rfl) ?_
 rintro _ _ ⟨d, rfl, rfl⟩
 refine aa rfl (ai rfl) (ag (ab (ae (ae (ah (aa rfl (ac rfl) (aa rfl (bu gi rfl) (aa rfl (ac rfl) (ag (ab (aW ?_)))))))))))
 refine cT (fun X : Nat × List Rn × List Int × Option Addr × Nat => X.1 ≤ rs.length ∧ eS rs X.1 = some (X.2.1, X.2.2.1)) (fun X => [(4, .pointer (some ⟨bt, 0, none⟩)), (6, .pointer (some ⟨d, 0, none⟩)), (20, .slice a rs.length c), (21, .int .i64 rs.length), (22, .int .i64 X.1)]) (fun X => pt d (np bt bm X.2.2.2.1 X.2.2.1.length X.2.2.2.2) :: gR bt (X.2.1, 32) :: osl 3 1 (.slice X.2.2.2.1 X.2.2.1.length X.2.2.2.2) (X.2.2.1.flatMap eE) :: kP bm (fun _ => none) :: R) (fun X => rs.length - X.1) (0, [], [], none, 0) ?_ ?_ ?_ ?_
 exact ⟨Nat.zero_le _, rfl⟩
 · repeat (first | exact aX | refine aV rfl ?_)
 show Ent _ (pt d (np bt bm none 0 0) :: gR bt ([], 32) :: osl 3 1 (.slice none 0 0) [] :: kP bm (fun _ => none) :: R)
 exact (fH (E := 3) (sz := 1) (k := ent_refl)).trans inferInstance
 intro ⟨k, t, lb, aL, cL⟩ ⟨hk, hdn⟩
 dsimp only at hk hdn ⊢
 obtain ⟨h1, h2, h3, h4⟩ := wO rs hdn
 dsimp only at h1 h2 h3 h4
 refine ae (ah (aa rfl (b0 rfl rfl) (ag (ab (ae ?_)))))
 refine aw rfl ?_ ?_
 intro c6
 refine aB (ab (ae (aW (ae ?_))))
 have hk1 : k < rs.length := by omega
 obtain ⟨g, o, rfl, hc⟩ := hs.at_ hk1
 have hgk : rs.getD k (0, 0, 0) = rs[k] := by simp [List.getD, hk1]
 obtain ⟨x, hx⟩ : ∃ x, rs[k] = x := ⟨_, rfl⟩
 rw [hx] at hc hgk
 have hst : eS rs (k + 1) = if dG x.1 = true ∧ dB t 32 x.2.1 x.2.2 k = 0 then some (eh t 32 x.2.1 x.2.2 k, lb ++ [x.1]) else none := by
  rw [eS, hdn, hgk]; rfl
 refine ah (aa rfl (ac rfl) ?_)
 refine aa rfl (ce gi iB rfl rfl rfl hk1 (by first | exact Nat.zero_add _ | rfl)) ?_
 refine aa rfl (cV xJ iB rfl hc.weak rfl) ?_
 refine am rfl (cM pL) ?_
 rintro _ _ ⟨br, rfl, rfl⟩
 refine aa rfl (ai rfl) (bD (cD iB rfl rfl rfl rfl rfl) ?_)
 rintro _ _ rfl
 refine ag (ab (ae (ae (ah ?_))))
 refine aa rfl (al rfl ie rfl az rfl (by first | exact Nat.zero_add _ | rfl)) ?_
 refine aa rfl (ao aQ rfl (aA rfl)) ?_
 refine am rfl (aU call126 rfl (uR x.1)) ?_
 rintro _ B_ ⟨m, rfl, hm, hB_⟩
 obtain rfl := hB_.symm
 refine aa rfl (b0 rfl rfl) (aa rfl (ac rfl) ?_)
 refine bC rfl rfl rfl ?_ ?_
 intro g8_5
 refine ap rfl rfl rfl rfl (ap rfl rfl rfl rfl (ap rfl rfl rfl rfl (ap rfl rfl rfl rfl (ap rfl rfl rfl rfl (ap rfl rfl rfl rfl (ap rfl rfl rfl rfl (aa rfl (aY rfl rfl) (ag (ab (cg rfl (ae (ah (aa rfl (ai rfl) (aa rfl (ai rfl) (ag (ab (av (aE (bj (aE (aE (bj (aE ?_)))))))))))))))))))))))
 refine au (.inl rfl) (.cons (ak rfl) (.cons (ak rfl) .nil)) ?_
 have hS : eS rs (k + 1) = none := by
  rw [hst, if_neg]
  rintro ⟨q1, q2⟩
  first
    | exact absurd q2 c8
    | (rw [q1] at hm; simp at hm; omega)
 have hN : eT rs = none := by rw [hD, px hS hk1]; rfl
 rw [hN]
 refine ⟨_, ⟨none, [], rfl, rfl, (fun _ => ⟨rfl, rfl⟩), (fun x hx => by cases hx)⟩, ?_⟩
 simp only [List.nil_append]
 exact inferInstance
 intro g8_5
 refine aa rfl (ac rfl) (ar rfl rfl ?_)
 refine aa rfl (al rfl ie rfl az rfl (by first | exact Nat.zero_add _ | rfl)) ?_
 refine ar rfl rfl (aa rfl (ao aQ rfl (aA rfl)) ?_)
 refine ar rfl rfl ?_
 refine aa rfl (al rfl ie rfl az rfl (by first | exact Nat.zero_add _ | rfl)) ?_
 refine ar rfl rfl (aa rfl (ao aQ rfl (aA rfl)) ?_)
 refine ar rfl rfl (aa rfl (ac rfl) (ar rfl rfl ?_))
 refine am rfl (bn call249 rfl (vp W0 _ bt t 32 (by decide) h1 (by omega) x.2.1 x.2.2 k)) ?_
 rintro _ B_ ⟨rfl, hB_⟩
 obtain rfl := hB_.symm
 refine ar rfl rfl (aa rfl (bI rfl rfl) (aa rfl (aM rfl rfl) (ag (ab ?_))))
 refine aw rfl ?_ ?_
 intro c8
 refine ae (ah (aa rfl (ai rfl) (aa rfl (ai rfl) (ag (ab (av (aE (bj (aE (aE (bj (aE (au (.inl rfl) (.cons (ak rfl) (.cons (ak rfl) .nil)) ?_)))))))))))))
 have hS : eS rs (k + 1) = none := by
  rw [hst, if_neg]
  rintro ⟨q1, q2⟩
  first
    | exact absurd q2 c8
    | (rw [q1] at hm; simp at hm; omega)
 have hN : eT rs = none := by rw [hD, px hS hk1]; rfl
 rw [hN]
 refine ⟨_, ⟨none, [], rfl, rfl, (fun _ => ⟨rfl, rfl⟩), (fun x hx => by cases hx)⟩, ?_⟩
 simp only [List.nil_append]
 exact inferInstance
 intro c8
 refine aB (ab ?_)
 have hgo : dG x.1 = true ∧ dB t 32 x.2.1 x.2.2 k = 0 := by
  refine ⟨?_, by first | exact Decidable.not_not.1 c8 | simpa using c8⟩
  rw [← Bool.not_eq_false]; intro q
  rw [q] at hm; simp at hm; omega
 rw [if_pos hgo] at hst
 refine cA [(br, 0, _)] 12 cz rfl (aK aJ) (fun hS => ?_)
 refine aj 0 rfl rfl (by kernel_rfl) (by kernel_rfl) (by kernel_rfl) rfl hS (ac rfl) ?_
 refine aj 1 rfl rfl (by kernel_rfl) (by kernel_rfl) (by kernel_rfl) rfl hS (ac rfl) ?_
 refine aj 2 rfl rfl (by kernel_rfl) (by kernel_rfl) (by kernel_rfl) rfl hS (aF rfl) ?_
 refine aj 3 rfl rfl (by kernel_rfl) (by kernel_rfl) (by kernel_rfl) rfl hS (al rfl tq rfl dh rfl (by first | exact Nat.zero_add _ | rfl)) ?_
 refine aj 5 rfl rfl (by kernel_rfl) (by kernel_rfl) (by kernel_rfl) rfl hS (al rfl ie rfl az rfl (by first | exact Nat.zero_add _ | rfl)) ?_
 refine aj 6 rfl rfl (by kernel_rfl) (by kernel_rfl) (by kernel_rfl) rfl hS (ao aQ rfl (aD (k := 0) rfl rfl)) ?_
 refine io (is := [4, 7]) (by kernel_rfl) rfl ⟨?_, ?_, trivial⟩
 skip
 refine eD rfl rfl (eC (ao eU rfl (aA rfl))) rfl ?_; clear hS
 rintro _ _ ⟨rfl, rfl⟩
 refine ⟨(aK aJ), fun hS => ?_⟩
 refine bA 7 (by kernel_rfl) rfl rfl (gD dC az ma rfl rfl rfl rfl rfl (by decide) (by decide)) rfl ?_; clear hS
 rintro _ _ ⟨b4, rfl, rfl⟩
 refine ⟨(aK aJ), fun hS => ?_⟩
 refine bA 8 (by kernel_rfl) rfl rfl (dP (sz := 1) (by_ := 8) (info := Tryz.t3) dC (by kernel_rfl) rfl rfl rfl rfl (by decide) rfl rfl dQ rfl rfl (by simp only [maxLen]; omega) (by omega)) rfl ?_; clear hS
 rintro _ _ ⟨aN, cN, rfl, rfl⟩
 refine ⟨(aK aJ), fun hS => ?_⟩
 refine aj 9 rfl rfl (by kernel_rfl) (by kernel_rfl) (by kernel_rfl) rfl hS (aF rfl) ?_
 refine aj 10 rfl rfl (by kernel_rfl) (by kernel_rfl) (by kernel_rfl) rfl hS (al rfl tq rfl dh rfl (by first | exact Nat.zero_add _ | rfl)) ?_
 refine bA 11 (by kernel_rfl) rfl rfl (cm dh rfl rfl rfl (Nat.le_of_ble_eq_true rfl) SetL.eq) rfl ?_; clear hS
 rintro _ _ rfl
 refine ⟨(aK aJ), fun hS => ?_⟩
 refine bL (by kernel_rfl) ?_; clear hS
 refine bH (ab (ah ?_))
 refine aa rfl (bF rfl rfl (by first | exact aZ (by omega) | rfl)) ?_
 refine aa rfl (ac rfl) (ag (ab ?_))
 refine cG (k + 1, eh t 32 x.2.1 x.2.2 k, lb ++ [x.1], aN, cN) ?_ ?_ ?_ ?_
 exact ⟨by omega, hst⟩
 omega
 · repeat (first | exact aX | refine aV rfl ?_)
 dsimp only
 rw [show (lb ++ [x.1]).length = lb.length + 1 from List.length_append .., show (lb ++ [x.1]).flatMap eE = lb.flatMap eE ++ [Value.int .i64 x.1] by rw [List.flatMap_append]; rfl]
 exact inferInstance
 skip
 refine eD rfl rfl (gD dC az ma rfl rfl rfl rfl rfl (by decide) (by decide)) rfl ?_; clear hS
 rintro _ _ ⟨b4, rfl, rfl⟩
 refine ⟨(aK aJ), fun hS => ?_⟩
 refine bA 4 (by kernel_rfl) rfl rfl (eC (ao eU rfl (aA rfl))) rfl ?_; clear hS
 rintro _ _ ⟨rfl, rfl⟩
 refine ⟨(aK aJ), fun hS => ?_⟩
 refine bA 8 (by kernel_rfl) rfl rfl (dP (sz := 1) (by_ := 8) (info := Tryz.t3) dC (by kernel_rfl) rfl rfl rfl rfl (by decide) rfl rfl dQ rfl rfl (by simp only [maxLen]; omega) (by omega)) rfl ?_; clear hS
 rintro _ _ ⟨aN, cN, rfl, rfl⟩
 refine ⟨(aK aJ), fun hS => ?_⟩
 refine aj 9 rfl rfl (by kernel_rfl) (by kernel_rfl) (by kernel_rfl) rfl hS (aF rfl) ?_
 refine aj 10 rfl rfl (by kernel_rfl) (by kernel_rfl) (by kernel_rfl) rfl hS (al rfl tq rfl dh rfl (by first | exact Nat.zero_add _ | rfl)) ?_
 refine bA 11 (by kernel_rfl) rfl rfl (cm dh rfl rfl rfl (Nat.le_of_ble_eq_true rfl) SetL.eq) rfl ?_; clear hS
 rintro _ _ rfl
 refine ⟨(aK aJ), fun hS => ?_⟩
 refine bL (by kernel_rfl) ?_; clear hS
 refine bH (ab (ah ?_))
 refine aa rfl (bF rfl rfl (by first | exact aZ (by omega) | rfl)) ?_
 refine aa rfl (ac rfl) (ag (ab ?_))
 refine cG (k + 1, eh t 32 x.2.1 x.2.2 k, lb ++ [x.1], aN, cN) ?_ ?_ ?_ ?_
 exact ⟨by omega, hst⟩
 omega
 · repeat (first | exact aX | refine aV rfl ?_)
 dsimp only
 rw [show (lb ++ [x.1]).length = lb.length + 1 from List.length_append .., show (lb ++ [x.1]).flatMap eE = lb.flatMap eE ++ [Value.int .i64 x.1] by rw [List.flatMap_append]; rfl]
 exact inferInstance
 intro c6
 refine cj (bi (bi (co (ab (ae (ah (aa rfl (ac rfl) (aa rfl (ai rfl) (aa rfl (ai rfl) (ag (ab (av (au (.inl rfl) (.cons (ak rfl) (.cons (ak rfl) .nil)) ?_)))))))))))))
 obtain rfl : k = rs.length := by omega
 have hN : eT rs = some ⟨t, lb, List.replicate 32 gS⟩ := by rw [hD, hdn]; rfl
 rw [hN]
 refine ⟨_, ⟨_, [jY d ⟨t, lb, List.replicate 32 gS⟩], rfl, rfl, (fun q => by cases q), (fun x hx => by cases hx; exact ⟨d, rfl, rfl⟩)⟩, ?_⟩
 simp only [List.cons_append, List.nil_append]
 exact BF (x := ⟨t, lb, List.replicate 32 gS⟩) rfl rfl Dm.symm rfl
def ge (p : Value × List ByteArray) : HP := osl 9 1 p.1 (uY p.2)
def f7 (v : Value) (ls : List (List ByteArray)) : HP := chk (fun C => ∃ vs : List Value, vs.length = ls.length ∧ C = [osl 218 1 v vs, kH 2 (bB ((vs.zip ls).map ge))])
section
variable {W0 : World} {N : FSz} {K : Act → World → Prop} {e : bQ} {A B R R1 R2 R3 : List HP} {g n c : Nat} {a : Option Addr} {v : Value} {ls : List (List ByteArray)}
theorem py [hk : Tk f7 v A ls R] (h : ∀ vs : List Value, vs.length = ls.length → aT W0 N K e (osl 218 1 v vs :: kH 2 (bB ((vs.zip ls).map ge)) :: R)) : aT W0 N K e A :=
  ed (r := f7) (b := v) (jh fun C hC => by obtain ⟨vs, h1, rfl⟩ := hC; exact h vs h1)
theorem Do {vs : List Value} [h1 : Tk (osl 218 1) v A vs R1] [h2 : Tk kH 2 R1 (bB ((vs.zip ls).map ge)) R2] (hv : vs.length = ls.length) [k : Ent R2 B] : Ent A (f7 v ls :: B) := by
 have e1 : A.Perm ([osl 218 1 v vs, kH 2 (bB ((vs.zip ls).map ge))] ++ R2) := h1.perm.trans (h2.perm.cons _)
 exact (Ent.ofPerm e1).trans ((eZ (R := R2) ⟨vs, hv, rfl⟩).trans (Ent.cons k))
theorem wP [k : Ent A B] : Ent A (f7 (.slice none 0 0) [] :: B) := by
 refine k.trans ?_
 have e1 : Ent B (kH 2 (bB ((List.zip ([] : List Value) ([] : List (List ByteArray))).map ge)) :: B) := fY (A := [])
 have e2 : Ent (kH 2 (bB ((List.zip ([] : List Value) ([] : List (List ByteArray))).map ge)) :: B) (osl 218 1 (.slice none 0 0) [] :: kH 2 (bB ((List.zip ([] : List Value) ([] : List (List ByteArray))).map ge)) :: B) := fH
 exact e1.trans (e2.trans (eZ (C := [osl 218 1 (.slice none 0 0) [], kH 2 (bB ((List.zip ([] : List Value) ([] : List (List ByteArray))).map ge))]) (R := B) ⟨[], rfl, rfl⟩))
theorem Dp {vs : List Value} {x : Value} [h1 : Tk (osl 218 1) v A (vs ++ [x]) R1] [h2 : Tk kH 2 R1 (bB ((vs.zip ls).map ge)) R2] (hx : x = .slice none 0 0) (hv : vs.length = ls.length) [k : Ent R2 B] : Ent A (f7 v (ls ++ [[]]) :: B) := by
 subst hx
 have e1 : A.Perm (osl 218 1 v (vs ++ [Value.slice none 0 0]) :: kH 2 (bB ((vs.zip ls).map ge)) :: R2) := h1.perm.trans (h2.perm.cons _)
 have e3 : ((vs ++ [Value.slice none 0 0]).zip (ls ++ [[]])).map ge = (vs.zip ls).map ge ++ [osl 9 1 (.slice none 0 0) []] := by
  rw [List.zip_append hv, List.map_append]; rfl
 have e4 : Ent (kH 2 (bB ((vs.zip ls).map ge)) :: R2) (kH 2 (bB (((vs ++ [Value.slice none 0 0]).zip (ls ++ [[]])).map ge)) :: R2) := by
  rw [e3]
  refine (ik (A := (vs.zip ls).map ge) (R := R2)).trans ?_
  refine (fH (E := 9) (sz := 1) (B := (vs.zip ls).map ge ++ R2)).trans ?_
  refine (Ent.ofPerm (B := ((vs.zip ls).map ge ++ [osl 9 1 (.slice none 0 0) []]) ++ R2) ?_).trans fY
  rw [List.append_assoc]; exact List.perm_middle.symm
 exact (Ent.ofPerm e1).trans ((Ent.cons e4).trans (Do (ls := ls ++ [[]]) (vs := vs ++ [.slice none 0 0]) (B := B) (by simp [hv]) (k := k)))
theorem pz {vs : List Value} {x : Value} [h1 : Tk (osl 218 1) v A (vs ++ [x]) R1] [h2 : Tk kH 2 R1 (bB ((vs.zip ls).map ge)) R2] (hx : x = .slice none 0 0) (hv : vs.length = ls.length) (k : aT W0 N K e (f7 v (ls ++ [[]]) :: R2)) : aT W0 N K e A :=
  f9 (Dp (v := v) (ls := ls) (vs := vs) (x := x) (B := R2) hx hv (k := ent_refl)) k
end
def pA (x : Prt) : List Value := [.int .i64 x.lab, .int .i64 x.gu]
def lX (x : Prt) : List ByteArray := if x.gu = -1 then [] else x.l
def lY (x : Prt) : List ByteArray := if x.gu = -1 then x.l else []
@[reducible] def pB (ps : List Prt) (aP aI aO : Option Addr) (cP cI cO : Nat) : Obj := ax [.slice aP ps.length cP, .slice aI ps.length cI, .slice aO ps.length cO] 357
def lZ (p : Nat) (ps : List Prt) : HP := chk (fun C => ∃ aP cP aI cI aO cO, C = [pt p (pB ps aP aI aO cP cI cO), osl 146 2 (.slice aP ps.length cP) (ps.flatMap pA), f7 (.slice aI ps.length cI) (ps.map lX), f7 (.slice aO ps.length cO) (ps.map lY)])
section
variable {W0 : World} {N : FSz} {K : Act → World → Prop} {e : bQ} {A B R R1 R2 R3 R4 R5 R6 : List HP} {p n : Nat} {ps : List Prt}
theorem Dq [hk : Tk lZ p A ps R] (h : ∀ aP cP aI cI aO cO, aT W0 N K e (pt p (pB ps aP aI aO cP cI cO) :: osl 146 2 (.slice aP ps.length cP) (ps.flatMap pA) :: f7 (.slice aI ps.length cI) (ps.map lX) :: f7 (.slice aO ps.length cO) (ps.map lY) :: R)) : aT W0 N K e A :=
  ed (r := lZ) (b := p) (jh fun C hC => by obtain ⟨aP, cP, aI, cI, aO, cO, rfl⟩ := hC; exact h aP cP aI cI aO cO)
theorem sD {n1 n2 n3 : Nat} {xs : List Value} {li lo : List (List ByteArray)} {aP aI aO : Option Addr} {cP cI cO : Nat} [h1 : Tk pt p A (ax [.slice aP n1 cP, .slice aI n2 cI, .slice aO n3 cO] 357) R1] [h2 : Tk (osl 146 2) (.slice aP n1 cP) R1 xs R2] [h3 : Tk f7 (.slice aI n2 cI) R2 li R3] [h4 : Tk f7 (.slice aO n3 cO) R3 lo R4]
    (e1 : xs = ps.flatMap pA) (e2 : li = ps.map lX) (e3 : lo = ps.map lY) (e4 : n1 = ps.length) (e5 : n2 = ps.length) (e6 : n3 = ps.length) [k : Ent R4 B] : Ent A (lZ p ps :: B) := by
 subst e1; subst e2; subst e3; subst e4; subst e5; subst e6
 have e : A.Perm ([pt p (pB ps aP aI aO cP cI cO), osl 146 2 (.slice aP ps.length cP) (ps.flatMap pA), f7 (.slice aI ps.length cI) (ps.map lX), f7 (.slice aO ps.length cO) (ps.map lY)] ++ R4) := h1.perm.trans ((h2.perm.trans ((h3.perm.trans (h4.perm.cons _)).cons _)).cons _)
 exact (Ent.ofPerm e).trans ((eZ (R := R4) ⟨aP, cP, aI, cI, aO, cO, rfl⟩).trans (Ent.cons k))
end
def jo (l : List iN) : Bool := decide (l.length ≤ 8) && l.all fun x => dG x.1
theorem wQ {l : List iN} (h : jo l = true) : l.length ≤ 8 ∧ ∀ x ∈ l, dG x.1 = true := by
 rw [jo, Bool.and_eq_true, decide_eq_true_iff, List.all_eq_true] at h; exact h
theorem wR {l : List iN} (h1 : l.length ≤ 8) (h2 : ∀ i (hi : i < l.length), dG l[i].1 = true) : jo l = true := by
 rw [jo, Bool.and_eq_true, decide_eq_true_iff, List.all_eq_true]
 refine ⟨h1, fun x hx => ?_⟩
 obtain ⟨i, hi, rfl⟩ := List.getElem_of_mem hx
 exact h2 i hi
theorem Dr {l : List iN} {i : Nat} (hi : i < l.length) (h : ¬ dG l[i].1 = true) : jo l = false := by
 rw [← Bool.not_eq_true]; intro q
 exact h ((wQ q).2 _ (List.getElem_mem hi))
theorem wS {l : List iN} {i : Nat} (hi : i < l.length) : gm (l.take (i + 1)) = gm (l.take i) ++ [⟨l[i].1, l[i].2, []⟩] := by
 rw [gm, gm, List.take_succ_eq_append_getElem hi, List.map_append]; rfl
theorem wT (x y : Int) : lX ⟨x, y, []⟩ = [] := by unfold lX; split <;> rfl
theorem wU (x y : Int) : lY ⟨x, y, []⟩ = [] := by unfold lY; split <;> rfl
theorem Ds (l : List iN) (a : Option Addr) (n c : Nat) (hln : l.length = n) (hs : cF (bK W0 R) a 2 ru l) :
    aC Tryz.prog W0 83 [.slice a n c] R (fun v B => (jo l = true ∧ ∃ p, v = .tuple #[.pointer (some ⟨p, 0, none⟩), .int .i64 0] ∧ B = lZ p (gm l) :: R) ∨ (jo l = false ∧ v = .tuple #[.pointer none, .int .i64 15] ∧ B = R)) := by
 subst hln
 refine aG func83 ntmps83 rfl rfl ?_
 refine ae (ah (aa rfl (ai rfl) (aa rfl (ai rfl) (ag (ab (ae (ae (ah (aa rfl (ac rfl) (aa rfl (bu f8 rfl) (aa rfl (cy rfl rfl) (ag (ab ?_)))))))))))))
 refine aw rfl ?_ ?_
 intro c1
 refine ae (ah (aa rfl (ai rfl) (aa rfl (ai rfl) (ag (ab (av (aE (au (.inl rfl) (.cons (ak rfl) (.cons (ak rfl) .nil)) ?_))))))))
 have h0 : jo l = false := by rw [jo, decide_eq_false (by omega), Bool.false_and]
 exact ⟨_, .inr ⟨h0, rfl, rfl⟩, inferInstance⟩
 intro c1
 have hn : l.length ≤ 8 := by omega
 refine aB (ab (ae (ah (aa rfl (bY jf zeroValue357 (aH fX (aH iF (aH iF bX))) bW) ?_))))
 refine am rfl (bJ rfl) ?_
 rintro _ _ ⟨p, rfl, rfl⟩
 refine aa rfl (ai rfl) (ag (ab (ae (ae (ah (aa rfl (ai rfl) (ag (ab (aW ?_)))))))))
 refine cT (fun i : Nat => i ≤ l.length ∧ ∀ j (hj : j < l.length), j < i → dG l[j].1 = true) (fun i => [(0, .slice a l.length c), (4, .pointer (some ⟨p, 0, none⟩)), (5, .int .i64 i)]) (fun i => lZ p (gm (l.take i)) :: R) (fun i => l.length - i) 0 ?_ ?_ ?_ ?_
 exact ⟨Nat.zero_le _, fun j _ hj => absurd hj (Nat.not_lt_zero _)⟩
 · repeat (first | exact aX | refine aV rfl ?_)
 have e1 : Ent (pt p (ax [.slice none 0 0, .slice none 0 0, .slice none 0 0] 357) :: R) (f7 (.slice none 0 0) [] :: pt p (ax [.slice none 0 0, .slice none 0 0, .slice none 0 0] 357) :: R) := wP
 have e2 : Ent (f7 (.slice none 0 0) [] :: pt p (ax [.slice none 0 0, .slice none 0 0, .slice none 0 0] 357) :: R) (f7 (.slice none 0 0) [] :: f7 (.slice none 0 0) [] :: pt p (ax [.slice none 0 0, .slice none 0 0, .slice none 0 0] 357) :: R) := wP
 have e3 : Ent (f7 (.slice none 0 0) [] :: f7 (.slice none 0 0) [] :: pt p (ax [.slice none 0 0, .slice none 0 0, .slice none 0 0] 357) :: R) (osl 146 2 (.slice none 0 0) [] :: f7 (.slice none 0 0) [] :: f7 (.slice none 0 0) [] :: pt p (ax [.slice none 0 0, .slice none 0 0, .slice none 0 0] 357) :: R) := fH
 have e4 : Ent (osl 146 2 (.slice none 0 0) [] :: f7 (.slice none 0 0) [] :: f7 (.slice none 0 0) [] :: pt p (ax [.slice none 0 0, .slice none 0 0, .slice none 0 0] 357) :: R) (lZ p [] :: R) := sD rfl rfl rfl rfl rfl rfl
 exact e1.trans (e2.trans (e3.trans e4))
 intro i ⟨hi, hjs⟩
 refine ae (ae (ah (aa rfl (ac rfl) (aa rfl (ac rfl) (aa rfl (bu f8 rfl) (aa rfl (b0 rfl rfl) (ag (ab ?_))))))))
 refine aw rfl ?_ ?_
 intro c5
 have hi1 : i < l.length := by omega
 obtain ⟨g, o, rfl, hc⟩ := hs.at_ hi1
 have hln : (gm (l.take i)).length = i := by rw [rx, List.length_take]; omega
 refine aB (ab (ae (aW (ae (ae (ah (aa rfl (ac rfl) (aa rfl (ac rfl) ?_))))))))
 refine aa rfl (ce f8 fe rfl rfl rfl hi1 (by first | exact Nat.zero_add _ | rfl)) ?_
 refine aa rfl (al rfl eG rfl az rfl (by first | exact Nat.zero_add _ | rfl)) ?_
 refine aa rfl (ao aQ rfl (cY.weak hc 0 _ rfl)) ?_
 refine am rfl (aU sY rfl (oG l[i].1)) ?_
 rintro _ B_ ⟨rfl, hB_⟩
 obtain rfl := hB_.symm
 refine aa rfl (bM rfl) (ag (ab ?_))
 refine aw rfl ?_ ?_
 intro c7
 refine ae (ah (aa rfl (ai rfl) (aa rfl (ai rfl) (ag (ab (av (aE (bj (aE (aE (bj (aE (au (.inl rfl) (.cons (ak rfl) (.cons (ak rfl) .nil)) ?_)))))))))))))
 exact ⟨_, .inr ⟨Dr hi1 (by simpa using c7), rfl, rfl⟩, inferInstance⟩
 intro c7
 have hlb : dG l[i].1 = true := by simpa using c7
 refine aB (ab (ae ?_))
 refine Dq (p := p) fun aP cP aI cI aO cO => ?_
 simp only [pB, hln]
 refine cA [(g, o + i * 2, ru l[i])] 14 cz rfl (cW hc.weak aJ) (fun hS => ?_)
 refine aj 0 rfl rfl (by kernel_rfl) (by kernel_rfl) (by kernel_rfl) rfl hS (ac rfl) ?_
 refine aj 1 rfl rfl (by kernel_rfl) (by kernel_rfl) (by kernel_rfl) rfl hS (ac rfl) ?_
 refine aj 2 rfl rfl (by kernel_rfl) (by kernel_rfl) (by kernel_rfl) rfl hS (aF rfl) ?_
 refine aj 3 rfl rfl (by kernel_rfl) (by kernel_rfl) (by kernel_rfl) rfl hS (al rfl jf rfl fX rfl (by first | exact Nat.zero_add _ | rfl)) ?_
 refine aj 5 rfl rfl (by kernel_rfl) (by kernel_rfl) (by kernel_rfl) rfl hS (ac rfl) ?_
 refine aj 6 rfl rfl (by kernel_rfl) (by kernel_rfl) (by kernel_rfl) rfl hS (ac rfl) ?_
 refine aj 7 rfl rfl (by kernel_rfl) (by kernel_rfl) (by kernel_rfl) rfl hS (ce f8 fe rfl rfl rfl hi1 (by first | exact Nat.zero_add _ | rfl)) ?_
 refine aj 8 rfl rfl (by kernel_rfl) (by kernel_rfl) (by kernel_rfl) rfl hS (cV nF fe rfl (dm (k := 0) rfl) rfl) ?_
 refine io (is := [4, 9]) (by kernel_rfl) rfl ⟨?_, ?_, trivial⟩
 skip
 refine eD rfl rfl (eC (ao iC rfl (aA rfl))) rfl ?_; clear hS
 rintro _ _ ⟨rfl, rfl⟩
 refine ⟨(cW hc.weak aJ), fun hS => ?_⟩
 refine bA 9 (by kernel_rfl) rfl rfl (g5 f8 fe ke rfl (eN rfl rfl fZ) rfl (by decide) (by decide) (by decide)) rfl ?_; clear hS
 rintro _ _ ⟨b2, rfl, rfl⟩
 refine ⟨(cW hc.weak aJ), fun hS => ?_⟩
 refine bA 10 (by kernel_rfl) rfl rfl (dP (sz := 2) (by_ := 16) (info := Tryz.t146) f8 (by kernel_rfl) rfl rfl rfl rfl (by decide) rfl rfl dQ rfl rfl (by simp only [maxLen]; omega) (by omega)) rfl ?_; clear hS
 rintro _ _ ⟨a6, k6, rfl, rfl⟩
 refine ⟨(cW hc.weak aJ), fun hS => ?_⟩
 refine aj 11 rfl rfl (by kernel_rfl) (by kernel_rfl) (by kernel_rfl) rfl hS (aF rfl) ?_
 refine aj 12 rfl rfl (by kernel_rfl) (by kernel_rfl) (by kernel_rfl) rfl hS (al rfl jf rfl fX rfl (by first | exact Nat.zero_add _ | rfl)) ?_
 refine bA 13 (by kernel_rfl) rfl rfl (cm fX rfl rfl rfl (Nat.le_of_ble_eq_true rfl) SetL.eq) rfl ?_; clear hS
 rintro _ _ rfl
 refine ⟨(cW hc.weak aJ), fun hS => ?_⟩
 refine bL (by kernel_rfl) ?_; clear hS
 refine ab (ae ?_)
 refine py (v := .slice aI i cI) fun vI hvI => ?_
 refine ah (aa rfl (ac rfl) (aa rfl (ac rfl) (aa rfl (aF rfl) ?_)))
 refine aa rfl (al rfl jf rfl iF rfl (by first | exact Nat.zero_add _ | rfl)) ?_
 refine aa rfl (ao tt rfl (aA rfl)) ?_
 refine am rfl (gD lm mb tu rfl rfl rfl rfl rfl (by decide) (by decide)) ?_
 rintro _ _ ⟨b3, rfl, rfl⟩
 refine am rfl (dP (sz := 1) (by_ := 24) (info := Tryz.t218) lm (by kernel_rfl) rfl rfl rfl rfl (by decide) rfl rfl dQ rfl rfl (by simp only [maxLen]; omega) (by omega)) ?_
 rintro _ _ ⟨a7, k7, rfl, rfl⟩
 refine aa rfl (aF rfl) ?_
 refine aa rfl (al rfl jf rfl iF rfl (by first | exact Nat.zero_add _ | rfl)) ?_
 refine bD (cm iF rfl rfl rfl (Nat.le_of_ble_eq_true rfl) SetL.eq) ?_
 rintro _ _ rfl
 refine ag (ab (pz (v := .slice a7 (i + 1) k7) (vs := vI) rfl hvI ?_))
 refine py (v := .slice aO i cO) fun vO hvO => ?_
 refine ah (aa rfl (ac rfl) (aa rfl (ac rfl) (aa rfl (aF rfl) ?_)))
 refine aa rfl (al rfl jf rfl iF rfl (by first | exact Nat.zero_add _ | rfl)) ?_
 refine aa rfl (ao tt rfl (aA rfl)) ?_
 refine am rfl (gD lm mb tu rfl rfl rfl rfl rfl (by decide) (by decide)) ?_
 rintro _ _ ⟨b4, rfl, rfl⟩
 refine am rfl (dP (sz := 1) (by_ := 24) (info := Tryz.t218) lm (by kernel_rfl) rfl rfl rfl rfl (by decide) rfl rfl dQ rfl rfl (by simp only [maxLen]; omega) (by omega)) ?_
 rintro _ _ ⟨a8, k8, rfl, rfl⟩
 refine aa rfl (aF rfl) ?_
 refine aa rfl (al rfl jf rfl iF rfl (by first | exact Nat.zero_add _ | rfl)) ?_
 refine bD (cm iF rfl rfl rfl (Nat.le_of_ble_eq_true rfl) SetL.eq) ?_
 rintro _ _ rfl
 refine ag (bH (ab (pz (v := .slice a8 (i + 1) k8) (vs := vO) rfl hvO ?_)))
 refine ah (aa rfl (ac rfl) ?_)
 refine aa rfl (bF rfl rfl (by first | exact aZ (by omega) | rfl)) ?_
 refine aa rfl (ai rfl) (ag (ab ?_))
 refine cG (i + 1) ?_ ?_ ?_ ?_
 refine ⟨by omega, fun j hj h => ?_⟩
 rcases Nat.lt_or_ge j i with q | q
 exact hjs j hj q
 obtain rfl : j = i := by omega
 exact hlb
 omega
 · repeat (first | exact aX | refine aV rfl ?_)
 rw [wS hi1]
 exact sD (by rw [List.flatMap_append]; rfl) (by rw [List.map_append, List.map_cons, List.map_nil, wT]) (by rw [List.map_append, List.map_cons, List.map_nil, wU]) (by rw [List.length_append, hln]; rfl) (by rw [List.length_append, hln]; rfl) (by rw [List.length_append, hln]; rfl)
 skip
 refine eD rfl rfl (g5 f8 fe ke rfl (eN rfl rfl fZ) rfl (by decide) (by decide) (by decide)) rfl ?_; clear hS
 rintro _ _ ⟨b2, rfl, rfl⟩
 refine ⟨(cW hc.weak aJ), fun hS => ?_⟩
 refine bA 4 (by kernel_rfl) rfl rfl (eC (ao iC rfl (aA rfl))) rfl ?_; clear hS
 rintro _ _ ⟨rfl, rfl⟩
 refine ⟨(cW hc.weak aJ), fun hS => ?_⟩
 refine bA 10 (by kernel_rfl) rfl rfl (dP (sz := 2) (by_ := 16) (info := Tryz.t146) f8 (by kernel_rfl) rfl rfl rfl rfl (by decide) rfl rfl dQ rfl rfl (by simp only [maxLen]; omega) (by omega)) rfl ?_; clear hS
 rintro _ _ ⟨a6, k6, rfl, rfl⟩
 refine ⟨(cW hc.weak aJ), fun hS => ?_⟩
 refine aj 11 rfl rfl (by kernel_rfl) (by kernel_rfl) (by kernel_rfl) rfl hS (aF rfl) ?_
 refine aj 12 rfl rfl (by kernel_rfl) (by kernel_rfl) (by kernel_rfl) rfl hS (al rfl jf rfl fX rfl (by first | exact Nat.zero_add _ | rfl)) ?_
 refine bA 13 (by kernel_rfl) rfl rfl (cm fX rfl rfl rfl (Nat.le_of_ble_eq_true rfl) SetL.eq) rfl ?_; clear hS
 rintro _ _ rfl
 refine ⟨(cW hc.weak aJ), fun hS => ?_⟩
 refine bL (by kernel_rfl) ?_; clear hS
 refine ab (ae ?_)
 refine py (v := .slice aI i cI) fun vI hvI => ?_
 refine ah (aa rfl (ac rfl) (aa rfl (ac rfl) (aa rfl (aF rfl) ?_)))
 refine aa rfl (al rfl jf rfl iF rfl (by first | exact Nat.zero_add _ | rfl)) ?_
 refine aa rfl (ao tt rfl (aA rfl)) ?_
 refine am rfl (gD lm mb tu rfl rfl rfl rfl rfl (by decide) (by decide)) ?_
 rintro _ _ ⟨b3, rfl, rfl⟩
 refine am rfl (dP (sz := 1) (by_ := 24) (info := Tryz.t218) lm (by kernel_rfl) rfl rfl rfl rfl (by decide) rfl rfl dQ rfl rfl (by simp only [maxLen]; omega) (by omega)) ?_
 rintro _ _ ⟨a7, k7, rfl, rfl⟩
 refine aa rfl (aF rfl) ?_
 refine aa rfl (al rfl jf rfl iF rfl (by first | exact Nat.zero_add _ | rfl)) ?_
 refine bD (cm iF rfl rfl rfl (Nat.le_of_ble_eq_true rfl) SetL.eq) ?_
 rintro _ _ rfl
 refine ag (ab (pz (v := .slice a7 (i + 1) k7) (vs := vI) rfl hvI ?_))
 refine py (v := .slice aO i cO) fun vO hvO => ?_
 refine ah (aa rfl (ac rfl) (aa rfl (ac rfl) (aa rfl (aF rfl) ?_)))
 refine aa rfl (al rfl jf rfl iF rfl (by first | exact Nat.zero_add _ | rfl)) ?_
 refine aa rfl (ao tt rfl (aA rfl)) ?_
 refine am rfl (gD lm mb tu rfl rfl rfl rfl rfl (by decide) (by decide)) ?_
 rintro _ _ ⟨b4, rfl, rfl⟩
 refine am rfl (dP (sz := 1) (by_ := 24) (info := Tryz.t218) lm (by kernel_rfl) rfl rfl rfl rfl (by decide) rfl rfl dQ rfl rfl (by simp only [maxLen]; omega) (by omega)) ?_
 rintro _ _ ⟨a8, k8, rfl, rfl⟩
 refine aa rfl (aF rfl) ?_
 refine aa rfl (al rfl jf rfl iF rfl (by first | exact Nat.zero_add _ | rfl)) ?_
 refine bD (cm iF rfl rfl rfl (Nat.le_of_ble_eq_true rfl) SetL.eq) ?_
 rintro _ _ rfl
 refine ag (bH (ab (pz (v := .slice a8 (i + 1) k8) (vs := vO) rfl hvO ?_)))
 refine ah (aa rfl (ac rfl) ?_)
 refine aa rfl (bF rfl rfl (by first | exact aZ (by omega) | rfl)) ?_
 refine aa rfl (ai rfl) (ag (ab ?_))
 refine cG (i + 1) ?_ ?_ ?_ ?_
 refine ⟨by omega, fun j hj h => ?_⟩
 rcases Nat.lt_or_ge j i with q | q
 exact hjs j hj q
 obtain rfl : j = i := by omega
 exact hlb
 omega
 · repeat (first | exact aX | refine aV rfl ?_)
 rw [wS hi1]
 exact sD (by rw [List.flatMap_append]; rfl) (by rw [List.map_append, List.map_cons, List.map_nil, wT]) (by rw [List.map_append, List.map_cons, List.map_nil, wU]) (by rw [List.length_append, hln]; rfl) (by rw [List.length_append, hln]; rfl) (by rw [List.length_append, hln]; rfl)
 intro c5
 refine cj (bi (bi (co (ab (ae (ah (aa rfl (ac rfl) (aa rfl (ai rfl) (aa rfl (ai rfl) (ag (ab (av (au (.inl rfl) (.cons (ak rfl) (.cons (ak rfl) .nil)) ?_)))))))))))))
 obtain rfl : i = l.length := by omega
 rw [List.take_of_length_le (Nat.le_refl _)]
 exact ⟨_, .inl ⟨wR hn fun j hj => hjs j hj hj, p, rfl, rfl⟩, inferInstance⟩
theorem wW {c : Cfg} (h : gt c = false) : ∀ k, k ≤ c.rl.length → ∃ y, eS c.rl k = some (eP c k, y)
 | 0, _ => ⟨[], rfl⟩
 | k + 1, hk => by
  obtain ⟨y, hy⟩ := wW h k (by omega)
  simp only [gt, Bool.or_eq_false_iff, decide_eq_false_iff_not] at h
  have hw := lO h.2 (i := k) (by omega)
  rw [j6, Bool.not_eq_false', Bool.and_eq_true, decide_eq_true_iff] at hw
  obtain ⟨h1, h2⟩ := hw
  have hl : dG (gr c k).1 = true := by
   have := h1
   simp only [dK, Bool.and_eq_true] at this
   exact this.1.2
  refine ⟨y ++ [(gr c k).1], ?_⟩
  rw [eS, hy, eP, if_pos h1]
  show (if dG (gr c k).1 = true ∧ dB (eP c k) 32 (gr c k).2.1 (gr c k).2.2 k = 0 then _ else _) = _
  rw [if_pos ⟨hl, h2⟩]; rfl
theorem wX {c : Cfg} (h : rt c = true) : ∃ x, eT c.rl = some x := by
 obtain ⟨_, _, _, k1, _⟩ := jW h
 obtain ⟨y, hy⟩ := wW k1 c.rl.length (Nat.le_refl _)
 have := (rL k1).1
 exact ⟨_, by rw [eT, if_neg (by omega), hy]; rfl⟩
theorem wY {c : Cfg} (h : rt c = true) : jo c.pl = true := by
 obtain ⟨_, _, _, _, k1, _⟩ := jW h
 simp only [i7, Bool.or_eq_false_iff, decide_eq_false_iff_not] at k1
 refine wR (by omega) fun i hi => ?_
 have hw := lO k1.2 hi
 simp only [j7, Bool.or_eq_false_iff, Bool.not_eq_false'] at hw
 have := hw.1
 rw [show c.pl.getD i (0, 0) = c.pl[i] by simp [List.getD, hi]] at this
 simp only [dK, Bool.and_eq_true] at this
 exact this.1.2
theorem wZ {c : Cfg} (h : rt c = true) : (0 ≤ c.cats ∧ c.cats ≤ 8) ∧ (-1 ≤ c.gate ∧ c.gate < 4) ∧ (0 ≤ c.quota ∧ c.quota ≤ 64) := by
 have hg4 := (fb h).g4
 obtain ⟨k1, k2, _, _, _, _, _, k3, _⟩ := jW h
 refine ⟨⟨k1, k2⟩, ?_⟩
 unfold gn at k3
 split at k3
 rw [decide_eq_false_iff_not] at k3; omega
 rw [Bool.not_eq_false', Bool.and_eq_true, decide_eq_true_iff, e8, decide_eq_true_iff] at k3; omega
theorem x9 {n f : Nat} : (List.replicate n bE).set f bE = List.replicate n bE := by
 apply List.ext_getElem
 simp
 intro i h1 h2; rw [List.getElem_set]; simp
theorem m4 {c : Cfg} {f i : Nat} (hr : rt c = true) (hf : f < bp c) (h : fB c f = some i) : j9 c f = (1, (i : Int)) := by
 rw [j9, if_pos ⟨hr, by omega, by have := (fb hr).nd; rw [bp] at hf; omega⟩, h]; rfl
theorem xa {c : Cfg} {f : Nat} (hr : rt c = true) (hf : f < bp c) (h : fB c f = none) : (j9 c f).1 = 2 := by
 rw [j9, if_pos ⟨hr, by omega, by have := (fb hr).nd; rw [bp] at hf; omega⟩, h]; rfl
theorem Dt (W0 : World) (R : List HP) (c : Cfg) (h : CfK W0 c) (hr : rt c = true) (ps : Nat) :
    aC Tryz.prog W0 48 [.agg (bU c).toArray, pV ps] (bG ps (List.replicate (bp c) bE) :: R)
      (fun v B => ∃ pb, v = .tuple #[pV pb, .int .i64 0] ∧ B = da pb (ps, d9 c (bp c)) :: bG ps (List.replicate (bp c) bE) :: R) := by
 have hR := fb hr
 have hnd := hR.nd
 have hg4 := hR.g4
 have hn : 0 < bp c ∧ bp c ≤ 32 := by rw [bp]; omega
 have hlr : (List.replicate (bp c) bE).length = bp c := by simp
 refine aG func48 ntmps48 rfl rfl ?_
 refine ae (ah (am rfl (bJ rfl) ?_))
 rintro _ _ ⟨b2, rfl, rfl⟩
 refine aa rfl (ai rfl) (aa rfl (ai rfl) (ag (ab (ae (ah (aa rfl (ac rfl) ?_))))))
 refine am rfl (bn call121 rfl (Al W0 _ ps (List.replicate (bp c) bE) (by rw [hlr]; omega) (by rw [hlr]; omega))) ?_
 rintro _ B_ ⟨pb, rfl, hB_⟩
 obtain rfl := hB_.symm
 rw [hlr, ← wj]
 refine aa rfl (ac rfl) (aa rfl (aS rfl rfl) (aa rfl (aS rfl rfl) (aa rfl (ai rfl) (aa rfl (ai rfl) (ag (ab (ae (ae (ah (aa rfl (ac rfl) (aa rfl (bI rfl rfl) (ag (ab ?_)))))))))))))
 refine aw rfl ?_ ?_
 intro c2
 exact absurd c2 (by decide)
 intro c2
 refine aB (ab (ae (ae (ah (aa rfl (ac rfl) (am rfl (bn nG rfl (lF W0 _ ps (List.replicate (bp c) bE))) ?_))))))
 rintro _ B_ ⟨rfl, hB_⟩
 obtain rfl := hB_.symm
 rw [hlr]
 refine aa rfl (ac rfl) (ag (ab (aW ?_)))
 refine cT (fun f : Nat => f ≤ bp c) (fun f => [(2, pV b2), (6, pV pb), (19, .int .i64 (bp c : Nat)), (20, .int .i64 f)]) (fun f => pt b2 (dd c) :: da pb (ps, d9 c f) :: bG ps (List.replicate (bp c) bE) :: R) (fun f => bp c - f) 0 ?_ ?_ ?_ ?_
 exact Nat.zero_le _
 · repeat (first | exact aX | refine aV rfl ?_)
 exact inferInstance
 intro f hf
 refine ae (ah (aa rfl (b0 rfl rfl) (ag (ab (ae ?_)))))
 refine aw rfl ?_ ?_
 intro c5
 refine aB (ab ?_)
 refine gM (fun _ : Unit => f < bp c) (fun _ => [(2, pV b2), (6, pV pb), (19, .int .i64 (bp c : Nat)), (20, .int .i64 f)]) (fun _ => pt b2 (dd c) :: da pb (ps, d9 c (f + 1)) :: bG ps (List.replicate (bp c) bE) :: R) ?_ ?_
 skip
 refine aW (ae (ah (aa rfl (ac rfl) (aa rfl (ai rfl) (ag (ab (ae ?_)))))))
 have hf1 : f < bp c := by omega
 have hos := m4 (i := (fB c f).getD 0) hr hf1
 have hon := xa hr hf1
 refine ah (aa rfl (cp cn bN rfl rfl) ?_)
 refine aa rfl (ac rfl) (am rfl (aU call122 rfl (Cy W0 _ c h f)) ?_)
 rintro _ B_ ⟨rfl, hB_⟩
 obtain rfl := hB_.symm
 refine am rfl (cM jt) ?_
 rintro _ _ ⟨b9, rfl, rfl⟩
 refine bD (cD gX rfl rfl rfl rfl rfl) ?_
 rintro _ _ rfl
 refine ag (ab (ae (ah ?_)))
 refine aa rfl (al rfl ju rfl az rfl (by first | exact Nat.zero_add _ | rfl)) ?_
 refine aa rfl (ao aQ rfl (aA rfl)) ?_
 refine aa rfl (cu rfl rfl) (ag (ab ?_))
 refine aw rfl ?_ ?_
 intro c8
 obtain ⟨i, hi⟩ : ∃ i, fB c f = some i := by
  cases e : fB c f with
  | some i => exact ⟨i, rfl⟩
  | none => have := hon e; rw [this] at c8; exact absurd c8 (by decide)
 have hov := m4 hr hf1 hi
 have hi4 := ((p8 hR).1 hi).1
 have hps := wk hf1 hi
 refine ah (aa rfl (ac rfl) (aa rfl (ac rfl) ?_))
 refine aa rfl (al rfl ju rfl az rfl (by first | exact Nat.zero_add _ | rfl)) ?_
 refine aa rfl (ao aQ rfl (aA (by rw [hov]; rfl : (pf (j9 c f))[1]? = some (.int .i64 (i : Int))))) ?_
 refine am rfl (eX call123 rfl (An W0 _ pb ps (d9 c f) (List.replicate (bp c) bE) f i (by rw [lW]; exact hf1) (by rw [hlr]; exact hf1) (by omega) (wm hR f) (by rw [p9 hf1, if_neg (by omega)]))) ?_
 rintro _ B_ ⟨rfl, hB_⟩
 obtain rfl := hB_.symm
 rw [x9, ← hps]
 refine ag (bH (ab ?_))
 refine dz () ?_ ?_ ?_
 exact hf1
 · repeat (first | exact aX | refine aV rfl ?_)
 exact inferInstance
 intro c8
 have hps : d9 c (f + 1) = d9 c f := by
  cases e : fB c f with
  | none => exact wl e
  | some i => have := m4 hr hf1 e; rw [this] at c8; exact absurd rfl c8
 refine aB (bH (ab ?_))
 refine dz () ?_ ?_ ?_
 exact hf1
 · repeat (first | exact aX | refine aV rfl ?_)
 rw [hps]
 exact inferInstance
 intro _ hf1
 refine ah ?_
 refine aa rfl (bF rfl rfl (by first | exact aZ (by omega) | rfl)) ?_
 refine aa rfl (ac rfl) (ag (ab ?_))
 refine cG (f + 1) ?_ ?_ ?_ ?_
 omega
 omega
 · repeat (first | exact aX | refine aV rfl ?_)
 exact inferInstance
 intro c5
 refine cj (bi (bi (co (ab (ae (ah (aa rfl (ac rfl) (aa rfl (ai rfl) (aa rfl (ai rfl) (ag (ab (av (au (.inl rfl) (.cons (ak rfl) (.cons (ak rfl) .nil)) ?_)))))))))))))
 obtain rfl : f = bp c := by omega
 exact ⟨_, ⟨pb, rfl, rfl⟩, inferInstance⟩
theorem Du (W0 : World) (R : List HP) (c : Cfg) (h : CfK W0 c) (hr : rt c = true) :
    aC Tryz.prog W0 49 [.agg (bU c).toArray, .slice none 0 0] R (fun v B => ∃ db x, v = .tuple #[pV db, .int .i64 0] ∧ B = jY db x :: R) := by
 obtain ⟨x, hx⟩ := wX hr
 have hl := (rL (jW hr).2.2.2.1).1
 refine aG func49 ntmps49 rfl rfl ?_
 refine ae (ah (am rfl (bJ rfl) ?_))
 rintro _ _ ⟨b2, rfl, rfl⟩
 refine aa rfl (ai rfl) (aa rfl (ai rfl) (ag (ab (ae (ah ?_)))))
 refine aa rfl (al rfl bw rfl iU rfl (by first | exact Nat.zero_add _ | rfl)) ?_
 refine aa rfl (ao ki rfl (aA rfl)) ?_
 refine am rfl (aU call124 rfl (Dn c.ra c.rc c.rl (h.ok.r _) (by omega))) ?_
 rintro _ B_ ⟨p, Y, rfl, hB_, _, hY⟩
 obtain rfl := hB_.symm
 obtain ⟨db, rfl, rfl⟩ := hY x hx
 rw [hx, show (if (some x).isSome = true then (0 : Int) else 14) = 0 from rfl]
 simp only [List.cons_append, List.nil_append]
 refine aa rfl (ac rfl) (aa rfl (aS rfl rfl) (aa rfl (aS rfl rfl) (aa rfl (ai rfl) (aa rfl (ai rfl) (ag (ab (ae (ae (ah (aa rfl (ac rfl) (aa rfl (bI rfl rfl) (ag (ab ?_)))))))))))))
 refine aw rfl ?_ ?_
 intro c2
 exact absurd c2 (by decide)
 intro c2
 refine aB (ab (ae (ae (ah (aa rfl (ac rfl) (aa rfl (bu Fo rfl) (aa rfl (ac rfl) (ag (ab (aW ?_))))))))))
 refine cT (fun _ : Unit => True) (fun _ => [(6, pV db), (20, .int .i64 0), (21, .int .i64 0)]) (fun _ => jY db x :: R) (fun _ => 0) () ?_ ?_ ?_ ?_
 trivial
 · repeat (first | exact aX | refine aV rfl ?_)
 exact inferInstance
 intro _ _
 refine ae (ah (aa rfl (b0 rfl rfl) (ag (ab (ae ?_)))))
 refine aw rfl ?_ ?_
 intro c5
 omega
 intro c5
 refine cj (bi (bi (co (ab (ae (ah (aa rfl (ac rfl) (aa rfl (ai rfl) (aa rfl (ai rfl) (ag (ab (av (au (.inl rfl) (.cons (ak rfl) (.cons (ak rfl) .nil)) ?_)))))))))))))
 exact ⟨_, ⟨db, x, rfl, rfl⟩, inferInstance⟩
@[reducible] def fc (c : Cfg) (ps pb db qb gb : Nat) : List Value := bU c ++ [pV ps, pV pb, pV db, pV qb, pV gb]
theorem Dv (W0 : World) (R : List HP) (c : Cfg) (h : CfK W0 c) (hr : rt c = true) :
    aC Tryz.prog W0 19 [.agg (bU c).toArray, .slice none 0 0] R
      (fun v B => ∃ hb ps pb db qb gb x, v = .tuple #[pV hb, .int .i64 0] ∧ B = pt hb (ax (fc c ps pb db qb gb) 68) :: bG ps (List.replicate (bp c) bE) :: da pb (ps, d9 c (bp c)) :: jY db x :: oI qb (gm c.pl) :: pt gb (ia c.cats c.gate c.quota) :: R) := by
 have hck : fT c = 0 := of_decide_eq_true hr
 have hfn : i9 c = bp c := by rw [i9, if_pos hr]
 have hf32 := wo c
 obtain ⟨q1, q2⟩ := wQ (wY hr)
 obtain ⟨z1, z2, z3⟩ := wZ hr
 refine aG func19 ntmps19 rfl rfl ?_
 refine ae (ah (am rfl (bJ rfl) ?_))
 rintro _ _ ⟨b2, rfl, rfl⟩
 refine aa rfl (ai rfl) (aa rfl (ai rfl) (ag (ab (ae (ae (ah (aa rfl (cp cn bN rfl rfl) ?_)))))))
 refine am rfl (aU te rfl (oW W0 _ c h.ok)) ?_
 rintro _ B_ ⟨at_, rfl, hB_⟩
 obtain rfl := hB_.symm
 rw [hck]
 refine aa rfl (ac rfl) (aa rfl (aS rfl rfl) (aa rfl (aS rfl rfl) (aa rfl (ai rfl) (aa rfl (ai rfl) (ag (ab (ae (ah (aa rfl (ac rfl) (aa rfl (bI rfl rfl) (ag (ab ?_))))))))))))
 refine aw rfl ?_ ?_
 intro c2
 exact absurd c2 (by decide)
 intro c2
 refine aB (ab (ae (ah (aa rfl (cp cn bN rfl rfl) ?_))))
 refine aa rfl (bY gA zeroValue68 (aH bN (aH iA (aH nS (aH yq (aH yr (aH tv bX)))))) (im rfl bN rfl rfl (Nat.le_of_ble_eq_true rfl) SetRL.eq bW)) ?_
 refine am rfl (bJ rfl) ?_
 rintro _ _ ⟨hb, rfl, rfl⟩
 refine aa rfl (ai rfl) (ag (ab (ae (ah (aa rfl (ai rfl) (ag (ab (ae (ae (ah (aa rfl (ac rfl) (aa rfl (cp cn bN rfl rfl) ?_))))))))))))
 refine am rfl (aU call47 rfl (Cx W0 _ c h.ok)) ?_
 rintro _ B_ ⟨rfl, hB_⟩
 obtain rfl := hB_.symm
 rw [hfn]
 refine am rfl (aU call46 rfl (zu W0 _ (bp c) (by omega))) ?_
 rintro _ B_ ⟨ps, rfl, hB_⟩
 obtain rfl := hB_.symm
 refine aa rfl (ac rfl) (aa rfl (aS rfl rfl) (aa rfl (aS rfl rfl) (aa rfl (aF rfl) ?_)))
 refine aa rfl (al rfl gA rfl iA rfl (by first | exact Nat.zero_add _ | rfl)) ?_
 refine bD (cm iA rfl rfl rfl (Nat.le_of_ble_eq_true rfl) SetL.eq) ?_
 rintro _ _ rfl
 refine aa rfl (ai rfl) (ag (ab (ae (ah (aa rfl (ac rfl) (aa rfl (bI rfl rfl) (ag (ab ?_))))))))
 refine aw rfl ?_ ?_
 intro c7
 exact absurd c7 (by decide)
 intro c7
 refine aB (ab (ae (ae ?_)))
 refine cA [(b2, 0, _)] 14 cz rfl (aK aJ) (fun hS => ?_)
 refine aj 0 rfl rfl (by kernel_rfl) (by kernel_rfl) (by kernel_rfl) rfl hS (ac rfl) ?_
 refine aj 1 rfl rfl (by kernel_rfl) (by kernel_rfl) (by kernel_rfl) rfl hS (cV cn bN rfl (dm (k := 0) rfl) rfl) ?_
 refine aj 2 rfl rfl (by kernel_rfl) (by kernel_rfl) (by kernel_rfl) rfl hS (ac rfl) ?_
 refine aj 3 rfl rfl (by kernel_rfl) (by kernel_rfl) (by kernel_rfl) rfl hS (aF rfl) ?_
 refine aj 4 rfl rfl (by kernel_rfl) (by kernel_rfl) (by kernel_rfl) rfl hS (al rfl gA rfl iA rfl (by first | exact Nat.zero_add _ | rfl)) ?_
 refine bA 5 (by kernel_rfl) rfl rfl (eC (ao kg rfl (aA rfl))) rfl ?_; clear hS
 rintro _ _ ⟨rfl, rfl⟩
 refine ⟨(aK aJ), fun hS => ?_⟩
 refine bA 6 (by kernel_rfl) rfl rfl (bn call48 rfl (Dt W0 _ c h hr ps)) rfl ?_; clear hS
 rintro _ B_ ⟨pb, rfl, hB_⟩
 obtain rfl := hB_.symm
 refine ⟨(aK aJ), fun hS => ?_⟩
 refine aj 7 rfl rfl (by kernel_rfl) (by kernel_rfl) (by kernel_rfl) rfl hS (ac rfl) ?_
 refine aj 8 rfl rfl (by kernel_rfl) (by kernel_rfl) (by kernel_rfl) rfl hS (aS rfl rfl) ?_
 refine aj 9 rfl rfl (by kernel_rfl) (by kernel_rfl) (by kernel_rfl) rfl hS (aS rfl rfl) ?_
 refine aj 10 rfl rfl (by kernel_rfl) (by kernel_rfl) (by kernel_rfl) rfl hS (aF rfl) ?_
 refine aj 11 rfl rfl (by kernel_rfl) (by kernel_rfl) (by kernel_rfl) rfl hS (al rfl gA rfl nS rfl (by first | exact Nat.zero_add _ | rfl)) ?_
 refine bA 12 (by kernel_rfl) rfl rfl (cm nS rfl rfl rfl (Nat.le_of_ble_eq_true rfl) SetL.eq) rfl ?_; clear hS
 rintro _ _ rfl
 refine ⟨(aK aJ), fun hS => ?_⟩
 refine aj 13 rfl rfl (by kernel_rfl) (by kernel_rfl) (by kernel_rfl) rfl hS (ai rfl) ?_
 refine bL (by kernel_rfl) ?_; clear hS
 refine ab (ae (ah (aa rfl (ac rfl) (aa rfl (bI rfl rfl) (ag (ab ?_))))))
 refine aw rfl ?_ ?_
 intro c10
 exact absurd c10 (by decide)
 intro c10
 refine aB (ab (ae (ae (ah (aa rfl (ac rfl) (aa rfl (cp cn bN rfl rfl) ?_))))))
 refine aa rfl (ac rfl) (am rfl (aU call49 rfl (Du W0 _ c h hr)) ?_)
 rintro _ B_ ⟨db, x, rfl, hB_⟩
 obtain rfl := hB_.symm
 refine aa rfl (ac rfl) (aa rfl (aS rfl rfl) (aa rfl (aS rfl rfl) (aa rfl (aF rfl) ?_)))
 refine aa rfl (al rfl gA rfl yq rfl (by first | exact Nat.zero_add _ | rfl)) ?_
 refine bD (cm yq rfl rfl rfl (Nat.le_of_ble_eq_true rfl) SetL.eq) ?_
 rintro _ _ rfl
 refine aa rfl (ai rfl) (ag (ab (ae (ah (aa rfl (ac rfl) (aa rfl (bI rfl rfl) (ag (ab ?_))))))))
 refine aw rfl ?_ ?_
 intro c13
 exact absurd c13 (by decide)
 intro c13
 refine aB (ab (ae (ae (ah (aa rfl (ac rfl) ?_)))))
 refine aa rfl (al rfl bw rfl fX rfl (by first | exact Nat.zero_add _ | rfl)) ?_
 refine aa rfl (ao iC rfl (aA rfl)) ?_
 refine am rfl (aU call50 rfl (Ai c.pl c.pa c.pl.length c.pc rfl q1 (h.ok.p _) q2)) ?_
 rintro _ B_ ⟨qb, rfl, hB_⟩
 obtain rfl := hB_.symm
 refine aa rfl (ac rfl) (aa rfl (aS rfl rfl) (aa rfl (aS rfl rfl) (aa rfl (aF rfl) ?_)))
 refine aa rfl (al rfl gA rfl yr rfl (by first | exact Nat.zero_add _ | rfl)) ?_
 refine bD (cm yr rfl rfl rfl (Nat.le_of_ble_eq_true rfl) SetL.eq) ?_
 rintro _ _ rfl
 refine aa rfl (ai rfl) (ag (ab (ae (ah (aa rfl (ac rfl) (aa rfl (bI rfl rfl) (ag (ab ?_))))))))
 refine aw rfl ?_ ?_
 intro c16
 exact absurd c16 (by decide)
 intro c16
 refine aB (ab (ae (ae (ah (aa rfl (ac rfl) ?_)))))
 refine aa rfl (al rfl bw rfl az rfl (by first | exact Nat.zero_add _ | rfl)) ?_
 refine aa rfl (ao aQ rfl (aA rfl)) ?_
 refine aa rfl (al rfl bw rfl az rfl (by first | exact Nat.zero_add _ | rfl)) ?_
 refine aa rfl (ao aQ rfl (aA rfl)) ?_
 refine aa rfl (al rfl bw rfl az rfl (by first | exact Nat.zero_add _ | rfl)) ?_
 refine aa rfl (ao aQ rfl (aA rfl)) ?_
 refine am rfl (aU call51 rfl (CY c.cats c.gate c.quota z1 z2 z3)) ?_
 rintro _ B_ ⟨gb, rfl, hB_⟩
 obtain rfl := hB_.symm
 refine aa rfl (ac rfl) (aa rfl (aS rfl rfl) (aa rfl (aS rfl rfl) (aa rfl (aF rfl) ?_)))
 refine aa rfl (al rfl gA rfl tv rfl (by first | exact Nat.zero_add _ | rfl)) ?_
 refine bD (cm tv rfl rfl rfl (Nat.le_of_ble_eq_true rfl) SetL.eq) ?_
 rintro _ _ rfl
 refine aa rfl (ai rfl) (ag (ab (ae (ah (aa rfl (ac rfl) (aa rfl (bI rfl rfl) (ag (ab ?_))))))))
 refine aw rfl ?_ ?_
 intro c19
 exact absurd c19 (by decide)
 intro c19
 refine aB (ab (ae (ah (aa rfl (ac rfl) (aa rfl (ai rfl) (aa rfl (ai rfl) (ag (ab (av (iJ (b := hb) (o' := ax (fc c ps pb db qb gb) 68) rfl ?_))))))))))
 refine au (.inl rfl) (.cons (ak rfl) (.cons (ak rfl) .nil)) ?_
 exact ⟨_, ⟨hb, ps, pb, db, qb, gb, x, rfl, rfl⟩, inferInstance⟩
theorem Dw (W0 : World) (R : List HP) (c : Cfg) (h : CfK W0 c) (hr : rt c = false) :
    aC Tryz.prog W0 19 [.agg (bU c).toArray, .slice none 0 0] R (fun v B => v = .tuple #[.pointer none, .int .i64 (fT c)] ∧ B = R) := by
 have hck : ¬ fT c = 0 := of_decide_eq_false hr
 refine aG func19 ntmps19 rfl rfl ?_
 refine ae (ah (am rfl (bJ rfl) ?_))
 rintro _ _ ⟨b2, rfl, rfl⟩
 refine aa rfl (ai rfl) (aa rfl (ai rfl) (ag (ab (ae (ae (ah (aa rfl (cp cn bN rfl rfl) ?_)))))))
 refine am rfl (aU te rfl (oW W0 _ c h.ok)) ?_
 rintro _ B_ ⟨at_, rfl, hB_⟩
 obtain rfl := hB_.symm
 refine aa rfl (ac rfl) (aa rfl (aS rfl rfl) (aa rfl (aS rfl rfl) (aa rfl (ai rfl) (aa rfl (ai rfl) (ag (ab (ae (ah (aa rfl (ac rfl) (aa rfl (bI rfl rfl) (ag (ab ?_))))))))))))
 refine aw rfl ?_ ?_
 intro c2
 refine ae (ah (aa rfl (ac rfl) (aa rfl (ai rfl) (aa rfl (ai rfl) (ag (ab (av (aE (au (.inl rfl) (.cons (ak rfl) (.cons (ak rfl) .nil)) ?_)))))))))
 exact ⟨_, ⟨rfl, rfl⟩, inferInstance⟩
 intro c2
 exact absurd hck c2
def sF (b : List Nat) : List Value := (List.range 16).map fun i => bV (b.getD i 0)
@[reducible] def sG (bt : Nat) (aR : Option Addr) (n cR : Nat) (ys : List Value) : Obj := ax (.slice aR n cR :: .pointer (some ⟨bt, 0, none⟩) :: ys) 352
def sH (d : Nat) (x : Dk) : HP := chk (fun C => ∃ bt aR cR, ∃ (L : List Int) (rl : List Rn), (RT x.rs L ∧ L.length = 32 ∧ rl.map (fun r => r.1) = x.lb) ∧ C = [pt d (sG bt aR rl.length cR (x.ss.flatMap sF)), j8 bt L, osl 144 3 (.slice aR rl.length cR) (rl.flatMap kb)])
section
variable {W0 : World} {N : FSz} {K : Act → World → Prop} {e : bQ} {A B R R1 R2 R3 : List HP} {d : Nat} {x : Dk}
theorem Dx {bt n cR : Nat} {aR : Option Addr} {L : List Int} {rl : List Rn} {ys zs : List Value} [h1 : Tk pt d A (sG bt aR n cR zs) R1] [h2 : Tk j8 bt R1 L R2] [h3 : Tk (osl 144 3) (.slice aR n cR) R2 ys R3]
    (q1 : RT x.rs L) (q2 : L.length = 32) (q3 : rl.map (fun r => r.1) = x.lb) (e1 : zs = x.ss.flatMap sF) (e2 : ys = rl.flatMap kb) (e3 : n = rl.length) [k : Ent R3 B] : Ent A (sH d x :: B) := by
 subst e1; subst e2; subst e3
 have e : A.Perm ([pt d (sG bt aR rl.length cR (x.ss.flatMap sF)), j8 bt L, osl 144 3 (.slice aR rl.length cR) (rl.flatMap kb)] ++ R3) := h1.perm.trans ((h2.perm.trans (h3.perm.cons _)).cons _)
 exact (Ent.ofPerm e).trans ((eZ (R := R3) ⟨bt, aR, cR, L, rl, ⟨q1, q2, q3⟩, rfl⟩).trans (Ent.cons k))
end
theorem xb (x : Rn) : (kb x).length = 3 := rfl
theorem Dy (l : List Rn) : eM (l.flatMap kb) = true := by
 induction l with
 | nil => rfl
 | cons x l ih => rw [List.flatMap_cons, eM, List.all_append, Bool.and_eq_true]; exact ⟨rfl, ih⟩
theorem Dz : ∀ w, (zeroValue 352).run Tryz.prog w = .ok (.agg (.slice none 0 0 :: .pointer none :: List.replicate 512 (.int .u8 0)).toArray) w := fun w => (zeroValue352 w).trans (by kernel_rfl)
theorem xd (rs : List Rn) : ∀ {k : Nat} {y : List Rn × List Int}, k ≤ rs.length → eS rs k = some y → y.2 = (rs.take k).map (fun r => r.1)
 | 0, y, _, h => by cases h; rfl
 | k + 1, y, hk, h => by
  rw [eS] at h
  cases e : eS rs k with
  | none => rw [e] at h; cases h
  | some z =>
   rw [e] at h
   have ih := xd rs (by omega) e
   have h' : (if dG (rs.getD k (0, 0, 0)).1 = true ∧ dB z.1 32 (rs.getD k (0, 0, 0)).2.1 (rs.getD k (0, 0, 0)).2.2 k = 0 then some (eh z.1 32 (rs.getD k (0, 0, 0)).2.1 (rs.getD k (0, 0, 0)).2.2 k, z.2 ++ [(rs.getD k (0, 0, 0)).1]) else none) = some y := h
   split at h'
   cases h'
   rw [List.take_succ_eq_append_getElem (by omega), List.map_append, ← ih, show rs.getD k (0, 0, 0) = rs[k]'(by omega) by simp [List.getD, show k < rs.length by omega]]; rfl
   cases h'
theorem DC (a : Option Addr) (c : Nat) (rs : List Rn) (hs : cF (bK W0 R) a 3 kb rs) (hl : rs.length < 9223372036854775808) (hb : ∀ x ∈ rs, -9223372036854775808 ≤ x.2.1 ∧ x.2.1 < 9223372036854775808) :
    aC Tryz.prog W0 81 [.slice a rs.length c] R
      (fun v B => ∃ p Y, v = .tuple #[.pointer p, .int .i64 (if (eT rs).isSome then 0 else 14)] ∧ B = Y ++ R ∧ (eT rs = none → p = none ∧ Y = []) ∧ (∀ x, eT rs = some x → ∃ d, p = some ⟨d, 0, none⟩ ∧ Y = [sH d x])) := by
 refine aG func81 ntmps81 rfl rfl ?_
 refine ae (ah (aa rfl (ai rfl) (aa rfl (ai rfl) (ag (ab (ae (ae (ah (aa rfl (ac rfl) (aa rfl (bu gi rfl) (aa rfl (cy rfl rfl) (ag (ab ?_)))))))))))))
 refine aw rfl ?_ ?_
 intro c1
 refine ae (ah (aa rfl (ai rfl) (aa rfl (ai rfl) (ag (ab (av (aE (au (.inl rfl) (.cons (ak rfl) (.cons (ak rfl) .nil)) ?_))))))))
 have hN : eT rs = none := by rw [eT, if_pos (by omega)]
 rw [hN]
 refine ⟨_, ⟨none, [], rfl, rfl, (fun _ => ⟨rfl, rfl⟩), (fun x hx => by cases hx)⟩, ?_⟩
 simp only [List.nil_append]
 exact inferInstance
 intro c1
 refine aB (ab (ae ?_))
 have h8 : rs.length ≤ 8 := by omega
 have hD : eT rs = (eS rs rs.length).map fun y => ⟨y.1, y.2, List.replicate 32 gS⟩ := by rw [eT, if_neg (by omega)]
 refine ah ?_
 refine am rfl (aU call194 rfl (w9 32 (by decide))) ?_
 rintro _ B_ ⟨bt, rfl, hB_⟩
 obtain rfl := hB_.symm
 refine aa rfl (ac rfl) (aa rfl (aS rfl rfl) (aa rfl (aS rfl rfl) (aa rfl (ai rfl) (aa rfl (ai rfl) (ag (ab (ae (ae (ah (aa rfl (ai rfl) (ag (ab (aW ?_)))))))))))))
 refine cT (fun X : Nat × List Int => X.1 ≤ rs.length ∧ X.2.length = 32 ∧ ∃ y, eS rs X.1 = some y ∧ RT y.1 X.2) (fun X => [(0, .slice a rs.length c), (4, .pointer (some ⟨bt, 0, none⟩)), (6, .int .i64 X.1)]) (fun X => j8 bt X.2 :: R) (fun X => rs.length - X.1) (0, List.replicate 32 (-1)) ?_ ?_ ?_ ?_
 exact ⟨Nat.zero_le _, rfl, _, rfl, vz 32⟩
 · repeat (first | exact aX | refine aV rfl ?_)
 exact inferInstance
 intro ⟨k, L⟩ ⟨hk, hL, y, hdn, hRT⟩
 dsimp only at hk hL hdn hRT ⊢
 refine ae (ae (ah (aa rfl (ac rfl) (aa rfl (ac rfl) (aa rfl (bu gi rfl) (aa rfl (b0 rfl rfl) (ag (ab ?_))))))))
 refine aw rfl ?_ ?_
 intro c5
 refine aB (ab (ae (aW (ae ?_))))
 have hk1 : k < rs.length := by omega
 obtain ⟨g, o, rfl, hc⟩ := hs.at_ hk1
 have hgk : rs.getD k (0, 0, 0) = rs[k] := by simp [List.getD, hk1]
 have hbk := hb _ (List.getElem_mem hk1)
 obtain ⟨x, hx⟩ : ∃ x, rs[k] = x := ⟨_, rfl⟩
 rw [hx] at hc hgk hbk
 have hst : eS rs (k + 1) = if dG x.1 = true ∧ dB y.1 32 x.2.1 x.2.2 k = 0 then some (eh y.1 32 x.2.1 x.2.2 k, y.2 ++ [x.1]) else none := by
  rw [eS, hdn, hgk]; rfl
 have hE := rK hRT (n := 32) (by rw [hL]; rfl) x.2.1 x.2.2 k
 refine cA [(g, o + k * 3, kb x)] 23 cz rfl (cW hc.weak aJ) (fun hS => ?_)
 refine aj 0 rfl rfl (by kernel_rfl) (by kernel_rfl) (by kernel_rfl) rfl hS (ac rfl) ?_
 refine aj 1 rfl rfl (by kernel_rfl) (by kernel_rfl) (by kernel_rfl) rfl hS (ac rfl) ?_
 refine aj 2 rfl rfl (by kernel_rfl) (by kernel_rfl) (by kernel_rfl) rfl hS (ce gi iB rfl rfl rfl hk1 (by first | exact Nat.zero_add _ | rfl)) ?_
 refine aj 3 rfl rfl (by kernel_rfl) (by kernel_rfl) (by kernel_rfl) rfl hS (al rfl ie rfl az rfl (by first | exact Nat.zero_add _ | rfl)) ?_
 refine aj 4 rfl rfl (by kernel_rfl) (by kernel_rfl) (by kernel_rfl) rfl hS (ao aQ rfl (fv (k := 0) (j := 0) rfl rfl)) ?_
 refine bA 5 (by kernel_rfl) rfl rfl (aU sY rfl (oG x.1)) rfl ?_; clear hS
 rintro _ B_ ⟨rfl, hB_⟩
 obtain rfl := hB_.symm
 refine ⟨(cW hc.weak aJ), fun hS => ?_⟩
 refine aj 6 rfl rfl (by kernel_rfl) (by kernel_rfl) (by kernel_rfl) rfl hS (bM rfl) ?_
 refine aj 7 rfl rfl (by kernel_rfl) (by kernel_rfl) (by kernel_rfl) rfl hS (ac rfl) ?_
 refine jy (t := 27) rfl ?_ ?_
 intro g7_8
 refine bz 8 rfl rfl (by kernel_rfl) (by kernel_rfl) (by kernel_rfl) rfl hS ?_
 refine bz 9 rfl rfl (by kernel_rfl) (by kernel_rfl) (by kernel_rfl) rfl hS ?_
 refine bz 10 rfl rfl (by kernel_rfl) (by kernel_rfl) (by kernel_rfl) rfl hS ?_
 refine bz 11 rfl rfl (by kernel_rfl) (by kernel_rfl) (by kernel_rfl) rfl hS ?_
 refine bz 12 rfl rfl (by kernel_rfl) (by kernel_rfl) (by kernel_rfl) rfl hS ?_
 refine bz 13 rfl rfl (by kernel_rfl) (by kernel_rfl) (by kernel_rfl) rfl hS ?_
 refine bz 14 rfl rfl (by kernel_rfl) (by kernel_rfl) (by kernel_rfl) rfl hS ?_
 refine bz 15 rfl rfl (by kernel_rfl) (by kernel_rfl) (by kernel_rfl) rfl hS ?_
 refine bz 16 rfl rfl (by kernel_rfl) (by kernel_rfl) (by kernel_rfl) rfl hS ?_
 refine bz 17 rfl rfl (by kernel_rfl) (by kernel_rfl) (by kernel_rfl) rfl hS ?_
 refine bz 18 rfl rfl (by kernel_rfl) (by kernel_rfl) (by kernel_rfl) rfl hS ?_
 refine bz 19 rfl rfl (by kernel_rfl) (by kernel_rfl) (by kernel_rfl) rfl hS ?_
 refine bz 20 rfl rfl (by kernel_rfl) (by kernel_rfl) (by kernel_rfl) rfl hS ?_
 refine bz 21 rfl rfl (by kernel_rfl) (by kernel_rfl) (by kernel_rfl) rfl hS ?_
 refine aj 22 rfl rfl (by kernel_rfl) (by kernel_rfl) (by kernel_rfl) rfl hS (aY rfl rfl) ?_
 refine bL (by kernel_rfl) ?_; clear hS
 refine ab (cg rfl (ae (ah (aa rfl (ai rfl) (aa rfl (ai rfl) (ag (ab (av (bj (aE (aE (bj (aE (au (.inl rfl) (.cons (ak rfl) (.cons (ak rfl) .nil)) ?_))))))))))))))
 have hS : eS rs (k + 1) = none := by
  rw [hst, if_neg]
  rintro ⟨q1, q2⟩
  rw [← hE] at q2
  simp_all
 have hN : eT rs = none := by rw [hD, px hS hk1]; rfl
 rw [hN]
 refine ⟨_, ⟨none, [], rfl, rfl, (fun _ => ⟨rfl, rfl⟩), (fun x hx => by cases hx)⟩, ?_⟩
 simp only [List.nil_append]
 exact inferInstance
 intro g7_8
 refine aj 8 rfl rfl (by kernel_rfl) (by kernel_rfl) (by kernel_rfl) rfl hS (ac rfl) ?_
 refine aj 9 rfl rfl (by kernel_rfl) (by kernel_rfl) (by kernel_rfl) rfl hS (ac rfl) ?_
 refine aj 10 rfl rfl (by kernel_rfl) (by kernel_rfl) (by kernel_rfl) rfl hS (ac rfl) ?_
 refine aj 11 rfl rfl (by kernel_rfl) (by kernel_rfl) (by kernel_rfl) rfl hS (ce gi iB rfl rfl rfl hk1 (by first | exact Nat.zero_add _ | rfl)) ?_
 refine aj 12 rfl rfl (by kernel_rfl) (by kernel_rfl) (by kernel_rfl) rfl hS (al rfl ie rfl az rfl (by first | exact Nat.zero_add _ | rfl)) ?_
 refine aj 13 rfl rfl (by kernel_rfl) (by kernel_rfl) (by kernel_rfl) rfl hS (ao aQ rfl (fv (k := 0) (j := 1) rfl rfl)) ?_
 refine aj 14 rfl rfl (by kernel_rfl) (by kernel_rfl) (by kernel_rfl) rfl hS (ac rfl) ?_
 refine aj 15 rfl rfl (by kernel_rfl) (by kernel_rfl) (by kernel_rfl) rfl hS (ac rfl) ?_
 refine aj 16 rfl rfl (by kernel_rfl) (by kernel_rfl) (by kernel_rfl) rfl hS (ce gi iB rfl rfl rfl hk1 (by first | exact Nat.zero_add _ | rfl)) ?_
 refine aj 17 rfl rfl (by kernel_rfl) (by kernel_rfl) (by kernel_rfl) rfl hS (al rfl ie rfl az rfl (by first | exact Nat.zero_add _ | rfl)) ?_
 refine aj 18 rfl rfl (by kernel_rfl) (by kernel_rfl) (by kernel_rfl) rfl hS (ao aQ rfl (fv (k := 0) (j := 2) rfl rfl)) ?_
 refine aj 19 rfl rfl (by kernel_rfl) (by kernel_rfl) (by kernel_rfl) rfl hS (ac rfl) ?_
 refine bA 20 (by kernel_rfl) rfl rfl (bn call196 rfl (wa W0 _ bt L (by omega) x.2.1 x.2.2 k)) rfl ?_; clear hS
 rintro _ B_ ⟨rfl, hB_⟩
 obtain rfl := hB_.symm
 refine ⟨(cW hc.weak aJ), fun hS => ?_⟩
 refine aj 21 rfl rfl (by kernel_rfl) (by kernel_rfl) (by kernel_rfl) rfl hS (bI rfl rfl) ?_
 refine aj 22 rfl rfl (by kernel_rfl) (by kernel_rfl) (by kernel_rfl) rfl hS (aM rfl rfl) ?_
 refine bL (by kernel_rfl) ?_; clear hS
 refine ab ?_
 refine aw rfl ?_ ?_
 intro c7
 refine ae (ah (aa rfl (ai rfl) (aa rfl (ai rfl) (ag (ab (av (bj (aE (aE (bj (aE (au (.inl rfl) (.cons (ak rfl) (.cons (ak rfl) .nil)) ?_))))))))))))
 have hS : eS rs (k + 1) = none := by
  rw [hst, if_neg]
  rintro ⟨q1, q2⟩
  rw [← hE] at q2
  simp_all
 have hN : eT rs = none := by rw [hD, px hS hk1]; rfl
 rw [hN]
 refine ⟨_, ⟨none, [], rfl, rfl, (fun _ => ⟨rfl, rfl⟩), (fun x hx => by cases hx)⟩, ?_⟩
 simp only [List.nil_append]
 exact inferInstance
 intro c7
 refine aB (bH (ab ?_))
 have hgo : dG x.1 = true ∧ dB y.1 32 x.2.1 x.2.2 k = 0 := by
  rw [← hE]; simp_all
 rw [if_pos hgo] at hst
 refine ah (aa rfl (ac rfl) ?_)
 refine aa rfl (bF rfl rfl (by first | exact aZ (by omega) | rfl)) ?_
 refine aa rfl (ai rfl) (ag (ab ?_))
 refine cG (k + 1, gH L x.2.1 x.2.2 k) ?_ ?_ ?_ ?_
 exact ⟨by omega, rJ.trans hL, _, hst, vy hRT (by rw [hL]; rfl) (by decide) _ _ _⟩
 omega
 · repeat (first | exact aX | refine aV rfl ?_)
 exact inferInstance
 intro c5
 refine cj (bi (bi (co (ab (ae ?_)))))
 obtain rfl : k = rs.length := by omega
 refine ah (am rfl (mK gi iB rfl) ?_)
 rintro _ _ ⟨be, rfl, rfl⟩
 refine aa rfl (ac rfl) ?_
 refine am rfl (uX (sz := 3) (by_ := 24) (info := Tryz.t144) gi (by kernel_rfl) rfl rfl rfl rfl (by decide) rfl rfl ((hs.weak.src xb (fun _ => trivial)).imp (fun h => by rw [h]; rfl) (fun h => h)) (dr xb rs) (Dy rs) (by simp only [maxLen]; omega) (by omega)) ?_
 rintro _ _ ⟨aN, cN, rfl, rfl⟩
 rw [List.nil_append, Nat.zero_add]
 refine aa rfl (ac rfl) ?_
 refine aa rfl (bY (l' := .slice aN rs.length cN :: .pointer (some ⟨bt, 0, none⟩) :: List.replicate 512 (.int .u8 0)) underlying352 Dz (aH iU (aH sizeOf345 (aH sizeOf350 bX))) (bq rfl iU rfl rfl (by simp) rfl (bq rfl sizeOf345 rfl rfl (by simp) rfl bW))) ?_
 refine am rfl (bJ rfl) ?_
 rintro _ _ ⟨d, rfl, rfl⟩
 refine aa rfl (ai rfl) (aa rfl (ai rfl) (ag (ab (av (au (.inl rfl) (.cons (ak rfl) (.cons (ak rfl) .nil)) ?_)))))
 have hN : eT rs = some ⟨y.1, y.2, List.replicate 32 gS⟩ := by rw [hD, hdn]; rfl
 rw [hN]
 refine ⟨_, ⟨_, [sH d ⟨y.1, y.2, List.replicate 32 gS⟩], rfl, rfl, (fun q => by cases q), (fun x hx => by cases hx; exact ⟨d, rfl, rfl⟩)⟩, ?_⟩
 simp only [List.cons_append, List.nil_append]
 exact Dx (x := ⟨y.1, y.2, List.replicate 32 gS⟩) (rl := rs) hRT hL (by rw [xd rs (Nat.le_refl _) hdn, List.take_of_length_le (Nat.le_refl _)]) (by kernel_rfl) rfl rfl
theorem DD (cats who quota : Int) (h1 : 0 ≤ cats ∧ cats ≤ 8) (h2 : -1 ≤ who ∧ who < 4) (h3 : 0 ≤ quota ∧ quota ≤ 64) : aC Tryz.prog W0 84 [.int .i64 cats, .int .i64 who, .int .i64 quota] R (fun v B => ∃ b, v = .tuple #[pV b, .int .i64 0] ∧ B = R) := by
 refine aG func84 ntmps84 rfl rfl ?_
 refine ae (ah (aa rfl (ai rfl) (aa rfl (ai rfl) (ag (ab (ae (ae (ah (aa rfl (ac rfl) (aa rfl (b0 rfl rfl) (aa rfl (ac rfl) ?_)))))))))))
 refine bC rfl rfl rfl ?_ ?_
 intro g1_3
 omega
 intro g1_3
 refine aa rfl (ac rfl) (ar rfl rfl (aa rfl (cy rfl rfl) (aa rfl (aM rfl rfl) (aa rfl (ac rfl) ?_))))
 refine bC rfl rfl rfl ?_ ?_
 intro g1_7
 omega
 intro g1_7
 refine aa rfl (ac rfl) (ar rfl rfl (aa rfl (b0 rfl rfl) (aa rfl (aM rfl rfl) (aa rfl (ac rfl) ?_))))
 refine bC rfl rfl rfl ?_ ?_
 intro g1_11
 omega
 intro g1_11
 refine aa rfl (ac rfl) (ar rfl rfl (aa rfl (cK rfl rfl) (aa rfl (aM rfl rfl) (aa rfl (ac rfl) ?_))))
 refine bC rfl rfl rfl ?_ ?_
 intro g1_15
 omega
 intro g1_15
 refine aa rfl (ac rfl) (ar rfl rfl (aa rfl (b0 rfl rfl) (aa rfl (aM rfl rfl) (aa rfl (ac rfl) ?_))))
 refine bC rfl rfl rfl ?_ ?_
 intro g1_19
 omega
 intro g1_19
 refine aa rfl (ac rfl) (ar rfl rfl (aa rfl (cy rfl rfl) (aa rfl (aM rfl rfl) (ag (ab ?_)))))
 refine aw rfl ?_ ?_
 intro c1
 omega
 intro c1
 refine aB (ab (ae (ah (aa rfl (ac rfl) (aa rfl (ac rfl) (aa rfl (ac rfl) (aa rfl (bY underlying359 zeroValue359 (aH az (aH az (aH az (aH sizeOf54 (aH az bX))))) (bq rfl az rfl rfl (Nat.le_of_ble_eq_true rfl) SetL.eq (bq rfl az rfl rfl (Nat.le_of_ble_eq_true rfl) SetL.eq (bq rfl az rfl rfl (Nat.le_of_ble_eq_true rfl) SetL.eq bW)))) ?_)))))))
 refine am rfl (bJ rfl) ?_
 rintro _ _ ⟨b, rfl, rfl⟩
 refine aa rfl (ai rfl) (aa rfl (ai rfl) (ag (ab (av (au (.inl rfl) (.cons (ak rfl) (.cons (ak rfl) .nil)) ?_)))))
 exact ⟨_, ⟨b, rfl, rfl⟩, inferInstance⟩
theorem DF (W0 : World) (R : List HP) (c : Cfg) (h : CfK W0 c) (hr : rt c = false) :
    aC Tryz.prog W0 32 [.agg (bU c).toArray, .slice none 0 0] R (fun v B => v = .tuple #[.pointer none, .int .i64 (fT c)] ∧ B = R) := by
 have hck : ¬ fT c = 0 := of_decide_eq_false hr
 refine aG func32 ntmps32 rfl rfl ?_
 refine ae (ah (am rfl (bJ rfl) ?_))
 rintro _ _ ⟨b2, rfl, rfl⟩
 refine aa rfl (ai rfl) (aa rfl (ai rfl) (ag (ab (ae (ah (aa rfl (cp cn bN rfl rfl) ?_))))))
 refine am rfl (aU xX rfl (se W0 _ c h.ok)) ?_
 rintro _ B_ ⟨at_, rfl, hB_⟩
 obtain rfl := hB_.symm
 refine aa rfl (ac rfl) (aa rfl (aS rfl rfl) (aa rfl (aS rfl rfl) (aa rfl (ai rfl) (aa rfl (ai rfl) (ag (ab (ae (ae (ah (aa rfl (ac rfl) (aa rfl (bI rfl rfl) (ag (ab ?_)))))))))))))
 refine aw rfl ?_ ?_
 intro c2
 refine ae (ah (aa rfl (ac rfl) (aa rfl (ai rfl) (aa rfl (ai rfl) (ag (ab (av (aE (au (.inl rfl) (.cons (ak rfl) (.cons (ak rfl) .nil)) ?_)))))))))
 exact ⟨_, ⟨rfl, rfl⟩, inferInstance⟩
 intro c2
 exact absurd hck c2
@[reducible] def kX (c : Cfg) (qs pb : Nat) (x y z : Nat) : List Value := bU c ++ [pV qs, pV pb, pV x, pV y, pV z]
theorem DG (W0 : World) (R : List HP) (c : Cfg) (h : CfK W0 c) (hr : rt c = true) :
    aC Tryz.prog W0 32 [.agg (bU c).toArray, .slice none 0 0] R
      (fun v B => ∃ wb qs pb x y z, v = .tuple #[pV wb, .int .i64 0] ∧ B = pt wb (ax (kX c qs pb x y z) 110) :: d6 pb (qs, d9 c (bp c)) :: cZ qs (List.replicate (bp c) bE) :: R) := by
 have hck : fT c = 0 := of_decide_eq_true hr
 have hfn : i9 c = bp c := by rw [i9, if_pos hr]
 have hf32 := wo c
 have hR := fb hr
 have hnd := hR.nd
 have hg4 := hR.g4
 have hn : 0 < bp c ∧ bp c ≤ 32 := by rw [bp]; omega
 have hlr : (List.replicate (bp c) bE).length = bp c := by simp
 obtain ⟨z1, z2, z3⟩ := wZ hr
 obtain ⟨dx, hdx⟩ := wX hr
 obtain ⟨hrl, hrb⟩ := rL (jW hr).2.2.2.1
 have hpo := wY hr
 refine aG func32 ntmps32 rfl rfl ?_
 refine ae (ah (am rfl (bJ rfl) ?_))
 rintro _ _ ⟨b2, rfl, rfl⟩
 refine aa rfl (ai rfl) (aa rfl (ai rfl) (ag (ab (ae (ah (aa rfl (cp cn bN rfl rfl) ?_))))))
 refine am rfl (aU xX rfl (se W0 _ c h.ok)) ?_
 rintro _ B_ ⟨at_, rfl, hB_⟩
 obtain rfl := hB_.symm
 rw [hck]
 refine aa rfl (ac rfl) (aa rfl (aS rfl rfl) (aa rfl (aS rfl rfl) (aa rfl (ai rfl) (aa rfl (ai rfl) (ag (ab (ae (ae (ah (aa rfl (ac rfl) (aa rfl (bI rfl rfl) (ag (ab ?_)))))))))))))
 refine aw rfl ?_ ?_
 intro c2
 exact absurd c2 (by decide)
 intro c2
 refine aB (ab (ae (ah (aa rfl (cp cn bN rfl rfl) ?_))))
 refine am rfl (aU call77 rfl (Cz W0 _ c h.ok)) ?_
 rintro _ B_ ⟨rfl, hB_⟩
 obtain rfl := hB_.symm
 rw [hfn]
 refine am rfl (aU call76 rfl (Bz W0 _ (bp c) (by omega))) ?_
 rintro _ B_ ⟨qs, rfl, hB_⟩
 obtain rfl := hB_.symm
 refine aa rfl (ac rfl) (aa rfl (aS rfl rfl) (aa rfl (aS rfl rfl) (aa rfl (ai rfl) (aa rfl (ai rfl) (ag (ab (ae (ah (aa rfl (ac rfl) ?_)))))))))
 refine am rfl (bn call78 rfl (C1 W0 _ qs (List.replicate (bp c) bE) (by rw [hlr]; omega) (by rw [hlr]; omega))) ?_
 rintro _ B_ ⟨pb, rfl, hB_⟩
 obtain rfl := hB_.symm
 rw [hlr, ← wj]
 refine aa rfl (ac rfl) (aa rfl (aS rfl rfl) (aa rfl (aS rfl rfl) (aa rfl (ai rfl) (aa rfl (ai rfl) (ag (ab (ae (ae (ah (aa rfl (ai rfl) (ag (ab (aW ?_)))))))))))))
 refine cT (fun f : Nat => f ≤ bp c) (fun f => [(1, .slice none 0 0), (2, pV b2), (8, pV qs), (10, pV pb), (12, .int .i64 f)]) (fun f => pt b2 (dd c) :: d6 pb (qs, d9 c f) :: cZ qs (List.replicate (bp c) bE) :: R) (fun f => bp c - f) 0 ?_ ?_ ?_ ?_
 exact Nat.zero_le _
 · repeat (first | exact aX | refine aV rfl ?_)
 exact inferInstance
 intro f hf
 refine ae (ae ?_)
 refine kQ (qs := qs) fun a2 c2 vs hv => ?_
 rw [hlr]
 refine ah (aa rfl (ac rfl) (aa rfl (ac rfl) (aa rfl (aF rfl) ?_)))
 refine aa rfl (al rfl iD rfl gJ rfl (by first | exact Nat.zero_add _ | rfl)) ?_
 refine aa rfl (ao jc rfl (aA rfl)) ?_
 refine aa rfl (bu ig rfl) (aa rfl (b0 rfl rfl) (ag (ab ?_)))
 refine aw rfl ?_ ?_
 intro c7
 refine aB (ab ?_)
 refine gM (fun _ : Unit => f < bp c) (fun _ => [(1, .slice none 0 0), (2, pV b2), (8, pV qs), (10, pV pb), (12, .int .i64 f)]) (fun _ => pt b2 (dd c) :: d6 pb (qs, d9 c (f + 1)) :: cZ qs (List.replicate (bp c) bE) :: R) ?_ ?_
 skip
 refine aW (ae ?_)
 have hf1 : f < bp c := by omega
 refine f9 (B := cZ qs (List.replicate (bp c) bE) :: pt b2 (dd c) :: d6 pb (qs, d9 c f) :: R) (by have := sB (R := pt b2 (dd c) :: d6 pb (qs, d9 c f) :: R) (qs := qs) (c := c2) (a := a2) hv; rw [hlr] at this; exact this) ?_
 have hos := m4 (i := (fB c f).getD 0) hr hf1
 have hon := xa hr hf1
 refine ah (aa rfl (cp cn bN rfl rfl) ?_)
 refine aa rfl (ac rfl) ?_
 refine am rfl (aU call79 rfl (CB W0 _ c h f hr (by rw [bp] at hf1; omega))) ?_
 rintro _ B_ ⟨rfl, hB_⟩
 obtain rfl := hB_.symm
 refine am rfl (cM jt) ?_
 rintro _ _ ⟨b9, rfl, rfl⟩
 refine bD (cD gX rfl rfl rfl rfl rfl) ?_
 rintro _ _ rfl
 refine ag (ab (ae (ah ?_)))
 refine aa rfl (al rfl ju rfl az rfl (by first | exact Nat.zero_add _ | rfl)) ?_
 refine aa rfl (ao aQ rfl (aA rfl)) ?_
 refine aa rfl (cu rfl rfl) (ag (ab ?_))
 refine aw rfl ?_ ?_
 intro c10
 obtain ⟨i, hi⟩ : ∃ i, fB c f = some i := by
  cases e : fB c f with
  | some i => exact ⟨i, rfl⟩
  | none => have := hon e; rw [this] at c10; exact absurd c10 (by decide)
 have hov := m4 hr hf1 hi
 have hi4 := ((p8 hR).1 hi).1
 have hps := wk hf1 hi
 refine ah (aa rfl (ac rfl) (aa rfl (ac rfl) ?_))
 refine aa rfl (al rfl ju rfl az rfl (by first | exact Nat.zero_add _ | rfl)) ?_
 refine aa rfl (ao aQ rfl (aA (by rw [hov]; rfl : (pf (j9 c f))[1]? = some (.int .i64 (i : Int))))) ?_
 refine am rfl (eX call80 rfl (C4 W0 _ pb qs (d9 c f) (List.replicate (bp c) bE) f i (by rw [lW]; exact hf1) (by rw [hlr]; exact hf1) (by omega) (by rw [p9 hf1, if_neg (by omega)]))) ?_
 rintro _ B_ ⟨rfl, hB_⟩
 obtain rfl := hB_.symm
 rw [x9, ← hps]
 refine ag (bH (ab ?_))
 refine dz () ?_ ?_ ?_
 exact hf1
 · repeat (first | exact aX | refine aV rfl ?_)
 exact inferInstance
 intro c10
 have hps : d9 c (f + 1) = d9 c f := by
  cases e : fB c f with
  | none => exact wl e
  | some i => have := m4 hr hf1 e; rw [this] at c10; exact absurd rfl c10
 refine aB (bH (ab ?_))
 refine dz () ?_ ?_ ?_
 exact hf1
 · repeat (first | exact aX | refine aV rfl ?_)
 rw [hps]
 exact inferInstance
 intro _ hf1
 refine ah (aa rfl (ac rfl) ?_)
 refine aa rfl (bF rfl rfl (by first | exact aZ (by omega) | rfl)) ?_
 refine aa rfl (ai rfl) (ag (ab ?_))
 refine cG (f + 1) ?_ ?_ ?_ ?_
 omega
 omega
 · repeat (first | exact aX | refine aV rfl ?_)
 exact inferInstance
 intro c7
 refine cj (bi (bi (co (ab (ae ?_)))))
 obtain rfl : f = bp c := by omega
 refine f9 (B := cZ qs (List.replicate (bp c) bE) :: pt b2 (dd c) :: d6 pb (qs, d9 c (bp c)) :: R) (by have := sB (R := pt b2 (dd c) :: d6 pb (qs, d9 c (bp c)) :: R) (qs := qs) (c := c2) (a := a2) hv; rw [hlr] at this; exact this) ?_
 refine ah ?_
 refine aa rfl (al rfl bw rfl iU rfl (by first | exact Nat.zero_add _ | rfl)) ?_
 refine aa rfl (ao ki rfl (aA rfl)) ?_
 refine am rfl (aU call81 rfl (DC c.ra c.rc c.rl (h.ok.r _) (by omega) (fun x hx => by have := (hrb x hx).2; omega))) ?_
 rintro _ B_ ⟨p, Y, rfl, hB_, _, hY⟩
 obtain rfl := hB_.symm
 obtain ⟨db, rfl, rfl⟩ := hY dx hdx
 rw [hdx, show (if (some dx).isSome = true then (0 : Int) else 14) = 0 from rfl]
 simp only [List.cons_append, List.nil_append]
 refine aa rfl (ac rfl) (aa rfl (aS rfl rfl) (aa rfl (aS rfl rfl) (aa rfl (ai rfl) (aa rfl (ai rfl) (ag (ab (ae (ae (ah (aa rfl (ai rfl) (ag (ab (aW ?_)))))))))))))
 refine cT (fun _ : Unit => True) (fun _ => [(1, .slice none 0 0), (2, pV b2), (8, pV qs), (10, pV pb), (14, pV db), (16, .int .i64 0)]) (fun _ => pt b2 (dd c) :: d6 pb (qs, d9 c (bp c)) :: cZ qs (List.replicate (bp c) bE) :: R) (fun _ => 0) () ?_ ?_ ?_ ?_
 trivial
 · repeat (first | exact aX | refine aV rfl ?_)
 exact inferInstance
 intro _ _
 refine ae (ae (ah (aa rfl (ac rfl) (aa rfl (ac rfl) (aa rfl (bu Fo rfl) (aa rfl (b0 rfl rfl) (ag (ab ?_))))))))
 refine aw rfl ?_ ?_
 intro c14
 omega
 intro c14
 refine cj (bi (bi (co (ab (ae (ah ?_))))))
 refine aa rfl (al rfl bw rfl fX rfl (by first | exact Nat.zero_add _ | rfl)) ?_
 refine aa rfl (ao iC rfl (aA rfl)) ?_
 refine am rfl (aU call83 rfl (Ds c.pl c.pa c.pl.length c.pc rfl (h.ok.p _))) ?_
 rintro _ B_ (⟨_, qb, rfl, hB_⟩ | ⟨hno, _, _⟩)
 rotate_left
 rw [hpo] at hno; cases hno
 obtain rfl := hB_.symm
 refine aa rfl (ac rfl) (aa rfl (aS rfl rfl) (aa rfl (aS rfl rfl) (aa rfl (ai rfl) (aa rfl (ai rfl) (ag (ab (ae (ah ?_))))))))
 refine aa rfl (al rfl bw rfl az rfl (by first | exact Nat.zero_add _ | rfl)) ?_
 refine aa rfl (ao aQ rfl (aA rfl)) ?_
 refine aa rfl (al rfl bw rfl az rfl (by first | exact Nat.zero_add _ | rfl)) ?_
 refine aa rfl (ao aQ rfl (aA rfl)) ?_
 refine aa rfl (al rfl bw rfl az rfl (by first | exact Nat.zero_add _ | rfl)) ?_
 refine aa rfl (ao aQ rfl (aA rfl)) ?_
 refine am rfl (aU call84 rfl (DD c.cats c.gate c.quota z1 z2 z3)) ?_
 rintro _ B_ ⟨gb, rfl, hB_⟩
 obtain rfl := hB_.symm
 refine aa rfl (ac rfl) (aa rfl (aS rfl rfl) (aa rfl (aS rfl rfl) (aa rfl (ai rfl) (aa rfl (ai rfl) (ag (ab (ae (ah (aa rfl (cp cn bN rfl rfl) ?_)))))))))
 refine aa rfl (ac rfl) (aa rfl (ac rfl) (aa rfl (ac rfl) (aa rfl (ac rfl) (aa rfl (ac rfl) (aa rfl (bY yt zeroValue110 (aH bN (aH jJ (aH nT (aH sizeOf106 (aH sizeOf107 (aH sizeOf108 bX)))))) (im rfl bN rfl rfl (Nat.le_of_ble_eq_true rfl) SetRL.eq (bq rfl jJ rfl rfl (Nat.le_of_ble_eq_true rfl) SetL.eq (bq rfl nT rfl rfl (Nat.le_of_ble_eq_true rfl) SetL.eq (bq rfl sizeOf106 rfl rfl (Nat.le_of_ble_eq_true rfl) SetL.eq (bq rfl sizeOf107 rfl rfl (Nat.le_of_ble_eq_true rfl) SetL.eq (bq rfl sizeOf108 rfl rfl (Nat.le_of_ble_eq_true rfl) SetL.eq bW))))))) ?_)))))
 refine am rfl (bJ rfl) ?_
 rintro _ _ ⟨wb, rfl, rfl⟩
 refine aa rfl (ai rfl) (aa rfl (ai rfl) (ag (ab (av (au (.inl rfl) (.cons (ak rfl) (.cons (ak rfl) .nil)) ?_)))))
 exact ⟨_, ⟨wb, qs, pb, db, qb, gb, rfl, rfl⟩, inferInstance⟩
theorem nx (hb : Nat) (c : Cfg) (ps pb db qb gb : Nat) : aC Tryz.prog W0 36 [pV hb] (pt hb (ax (fc c ps pb db qb gb) 68) :: R) (fun v B => v = .bool false ∧ B = pt hb (ax (fc c ps pb db qb gb) 68) :: R) := by
 refine aG func36 ntmps36 rfl rfl ?_
 refine ae (ah (aa rfl (ai rfl) (ag (ab (ae (ah (aa rfl (ac rfl) (aa rfl (dv nU rfl rfl) (aa rfl (ac rfl) ?_)))))))))
 refine bC rfl rfl rfl ?_ ?_
 intro g1_3
 cases g1_3
 intro g1_3
 refine aa rfl (ac rfl) (ar rfl rfl (aa rfl (aF rfl) (ar rfl rfl ?_)))
 refine aa rfl (al rfl gA rfl iA rfl (by first | exact Nat.zero_add _ | rfl)) ?_
 refine ar rfl rfl (aa rfl (ao kg rfl (aA rfl)) ?_)
 refine ar rfl rfl (aa rfl (dv xy rfl rfl) (aa rfl (aM rfl rfl) (aa rfl (ai rfl) (ag (ab (av (au (.inl rfl) (.cons (ak rfl) .nil) ?_)))))))
 exact ⟨_, ⟨rfl, rfl⟩, inferInstance⟩
theorem DI (hb : Nat) (c : Cfg) (ps pb db qb gb : Nat) : aC Tryz.prog W0 21 [pV hb] (pt hb (ax (fc c ps pb db qb gb) 68) :: R) (fun v B => v = pV ps ∧ B = pt hb (ax (fc c ps pb db qb gb) 68) :: R) := by
 refine aG func21 ntmps21 rfl rfl ?_
 refine ae (ah (aa rfl (ai rfl) (ag (ab (ae (ae (ah (aa rfl (ac rfl) (am rfl (bn pU rfl (nx hb c ps pb db qb gb)) ?_)))))))))
 rintro _ B_ ⟨rfl, hB_⟩
 obtain rfl := hB_.symm
 refine ag (ab ?_)
 refine aw rfl ?_ ?_
 intro c1
 exact absurd c1 (by decide)
 intro c1
 refine aB (ab (ae (ah (aa rfl (ac rfl) (aa rfl (aF rfl) ?_)))))
 refine aa rfl (al rfl gA rfl iA rfl (by first | exact Nat.zero_add _ | rfl)) ?_
 refine aa rfl (ao kg rfl (aA rfl)) ?_
 refine aa rfl (ai rfl) (ag (ab (av (au (.inl rfl) (.cons (ak rfl) .nil) ?_))))
 exact ⟨_, ⟨rfl, rfl⟩, inferInstance⟩
theorem DJ (hb : Nat) (c : Cfg) (ps pb db qb gb : Nat) : aC Tryz.prog W0 22 [pV hb] (pt hb (ax (fc c ps pb db qb gb) 68) :: R) (fun v B => v = pV pb ∧ B = pt hb (ax (fc c ps pb db qb gb) 68) :: R) := by
 refine aG func22 ntmps22 rfl rfl ?_
 refine ae (ah (aa rfl (ai rfl) (ag (ab (ae (ae (ah (aa rfl (ac rfl) (am rfl (bn pU rfl (nx hb c ps pb db qb gb)) ?_)))))))))
 rintro _ B_ ⟨rfl, hB_⟩
 obtain rfl := hB_.symm
 refine ag (ab ?_)
 refine aw rfl ?_ ?_
 intro c1
 exact absurd c1 (by decide)
 intro c1
 refine aB (ab (ae (ah (aa rfl (ac rfl) (aa rfl (aF rfl) ?_)))))
 refine aa rfl (al rfl gA rfl nS rfl (by first | exact Nat.zero_add _ | rfl)) ?_
 refine aa rfl (ao xT rfl (aA rfl)) ?_
 refine aa rfl (ai rfl) (ag (ab (av (au (.inl rfl) (.cons (ak rfl) .nil) ?_))))
 exact ⟨_, ⟨rfl, rfl⟩, inferInstance⟩
structure GC (rb vb pv tr : Nat) (cs : List Value) : Prop where
  len : cs.length = 28
  cr : cs[0]? = some (pV rb)
  cv : cs[6]? = some (pV vb)
  rd : ∀ k, k < 4 → cs[9 + k * 1]? = some (wV 0)
  cw : cs[24]? = some (pV pv)
  ct : cs[26]? = some (pV tr)
  cc : cs[27]? = some (.int .i64 0)
structure Gs where
  rl : List Nat
  pc : Nat
  es : List Evt
  fresh : Bool
def fj (gb : Nat) (x : Gs) : HP := chk (fun C => ∃ cs rb vb pv tr o, GC rb vb pv tr cs ∧ x.rl.length = 16 ∧ (x.fresh = true → o = iu) ∧ C = [pt gb (ax cs 142), pt rb (bS x.rl x.pc), cq tr x.es, pt vb o])
def fK : Gs := ⟨List.replicate 16 0, 0, [], true⟩
theorem DK {R : List HP} {gb rb vb pv tr : Nat} {cs : List Value} {o : Obj} {x : Gs} (h : GC rb vb pv tr cs) (h1 : x.rl.length = 16) (h2 : x.fresh = true → o = iu) : Ent (pt gb (ax cs 142) :: pt rb (bS x.rl x.pc) :: cq tr x.es :: pt vb o :: R) (fj gb x :: R) :=
  eZ (R := R) (C := [_, _, _, _]) ⟨cs, rb, vb, pv, tr, o, h, h1, h2, rfl⟩
theorem xe {W0 : World} {N : FSz} {K : Act → World → Prop} {e : bQ} {A R : List HP} {gb : Nat} {x : Gs} [hk : Tk fj gb A x R] (h : ∀ cs rb vb pv tr o, GC rb vb pv tr cs → x.rl.length = 16 → (x.fresh = true → o = iu) → aT W0 N K e (pt gb (ax cs 142) :: pt rb (bS x.rl x.pc) :: cq tr x.es :: pt vb o :: R)) : aT W0 N K e A :=
  ed (r := fj) (b := gb) (jh fun C hC => by obtain ⟨cs, rb, vb, pv, tr, o, h1, h2, h3, rfl⟩ := hC; exact h cs rb vb pv tr o h1 h2 h3)
theorem DL {x : Bd} {q0 q1 q2 : Nat} {c : Cfg} {i : Nat} {wv : Value} {pb pv bx tr : Nat} : GC x.r x.v pv tr (pw x q0 q1 q2 c i wv pb pv bx tr) := ⟨rfl, rfl, rfl, fun k hk => by
 have : k = 0 ∨ k = 1 ∨ k = 2 ∨ k = 3 := by omega
 rcases this with rfl | rfl | rfl | rfl <;> rfl, rfl, rfl, rfl⟩
theorem DN {l : List HP} {x : HP} {R : List HP} : Ent (x :: kH 2 (bB l) :: R) (kH 2 (bB (l ++ [x])) :: R) := wK (l := l) (x := x) (R := R)
theorem sI {who : Nat} {x : Im} : ∀ n, (d8 who [] n x).fr = x.fr
 | 0 => rfl
 | n + 1 => by
  rw [d8, g8]
  split
  show f2 _ (d4 [] n) 0 _ = _
  rw [show d4 [] n = [] by simp [d4]]
  exact sI n
  exact sI n
theorem DO {c : Cfg} {i : Nat} {fr : List bZ} {po : Po} : (eR c i [] fr po).fr = fr := by
 rw [eR, show bO [] (d5 c i).2.1.toNat = [] by simp [bO]]; exact sI _
theorem DT {c : Cfg} {i j : Nat} {ws : List Nat} {fr : List bZ} {po : Po} (h : j ≠ i) : bP (eR c i ws fr po).po j = bP po j := uF h _
theorem DU {l : List Nat} {g : Nat} {R : List HP} : Ent (fj g fK :: kH 2 (bB (l.map fun g => fj g fK)) :: R) (kH 2 (bB ((l ++ [g]).map fun g => fj g fK)) :: R) := by
 rw [List.map_append]; exact DN
abbrev pC (c : Cfg) (hb ps pb db qb gb : Nat) (a : Option Addr) (cap : Nat) (gbs : List Nat) (R : List HP) : List HP := pt hb (ax (fc c ps pb db qb gb) 68) :: pt gb (ia c.cats c.gate c.quota) :: bG ps (List.replicate (bp c) bE) :: osl 50 1 (.slice a gbs.length cap) (gbs.map pV) :: kH 2 (bB (gbs.map fun g => fj g fK)) :: R
theorem DV {A B : List HP} (k : Ent A B) : Ent A (kH 2 (bB []) :: B) := (fY (A := []) (R := A)).trans (Ent.cons k)
theorem DW {c : Cfg} {hb ps pb db qb gb wb qs rpb x y z b3 : Nat} {dk : Dk} {R : List HP} : Ent (pt wb (ax (kX c qs rpb x y z) 110) :: d6 rpb (qs, d9 c (bp c)) :: cZ qs (List.replicate (bp c) bE) :: pt hb (ax (fc c ps pb db qb gb) 68) :: bG ps (List.replicate (bp c) bE) :: da pb (ps, d9 c (bp c)) :: jY db dk :: oI qb (gm c.pl) :: pt gb (ia c.cats c.gate c.quota) :: pt b3 (dd c) :: R)
    (pt b3 (dd c) :: pC c hb ps pb db qb gb none 0 [] (da pb (ps, d9 c (bp c)) :: pt wb (ax (kX c qs rpb x y z) 110) :: d6 rpb (qs, d9 c (bp c)) :: cZ qs (List.replicate (bp c) bE) :: osl 101 1 (.slice none 0 0) [] :: R)) := by
 refine Ent.trans (B := pt b3 (dd c) :: pt hb (ax (fc c ps pb db qb gb) 68) :: pt gb (ia c.cats c.gate c.quota) :: bG ps (List.replicate (bp c) bE) :: da pb (ps, d9 c (bp c)) :: pt wb (ax (kX c qs rpb x y z) 110) :: d6 rpb (qs, d9 c (bp c)) :: cZ qs (List.replicate (bp c) bE) :: R) inferInstance ?_
 refine Ent.cons (Ent.cons (Ent.cons (Ent.cons ?_)))
 refine fH (E := 50) (sz := 1) (k := ?_)
 refine DV ?_
 exact Ent.cons (Ent.cons (Ent.cons (Ent.cons (fH (E := 101) (sz := 1)))))
theorem DY (W0 : World) (R : List HP) (c : Cfg) (h : CfK W0 c) (hr : rt c = false) :
    aC Tryz.prog W0 12 [.agg (bU c).toArray, .slice none 0 0, .slice none 0 0] R (fun v B => v = .tuple #[.pointer none, .slice none 0 0, .pointer none, .slice none 0 0, .bool true] ∧ B = R) := by
 refine aG func12 ntmps12 rfl rfl ?_
 refine ae (ah (am rfl (bJ rfl) ?_))
 rintro _ _ ⟨b3, rfl, rfl⟩
 refine aa rfl (ai rfl) (aa rfl (ai rfl) (aa rfl (ai rfl) (aa rfl (ai rfl) (aa rfl (ai rfl) (ag (ab (ae (ah (aa rfl (cp cn bN rfl rfl) ?_)))))))))
 refine aa rfl (ac rfl) (am rfl (aU call19 rfl (Dw W0 _ c h hr)) ?_)
 rintro _ B_ ⟨rfl, hB_⟩
 obtain rfl := hB_.symm
 refine aa rfl (ac rfl) (aa rfl (aS rfl rfl) (aa rfl (aS rfl rfl) (aa rfl (ai rfl) (aa rfl (ai rfl) (ag (ab (ae (ah (aa rfl (cp cn bN rfl rfl) ?_)))))))))
 refine aa rfl (ac rfl) (am rfl (aU call32 rfl (DF W0 _ c h hr)) ?_)
 rintro _ B_ ⟨rfl, hB_⟩
 obtain rfl := hB_.symm
 refine aa rfl (ac rfl) (aa rfl (aS rfl rfl) (aa rfl (aS rfl rfl) (aa rfl (ai rfl) (aa rfl (ai rfl) (ag (ab (ae (ae (ah (aa rfl (ac rfl) (aa rfl (ac rfl) (aa rfl (bI rfl rfl) (aa rfl (ac rfl) ?_)))))))))))))
 refine bC rfl rfl rfl ?_ ?_
 intro g3_4
 exact absurd rfl g3_4
 intro g3_4
 refine aa rfl (ac rfl) (ar rfl rfl (aa rfl (dv nU rfl rfl) (ar rfl rfl (aa rfl (ac rfl) (ar rfl rfl (aa rfl (dv tw rfl rfl) (ar rfl rfl (aa rfl (tX pW rfl rfl) ?_))))))))
 refine aa rfl (aM rfl rfl) (ag (ab ?_))
 refine aw rfl ?_ ?_
 intro c3
 exact absurd rfl c3
 intro c3
 refine aB (ab (ae (ae (ah (aa rfl (ac rfl) (aa rfl (dv tw rfl rfl) (ag (ab ?_))))))))
 refine aw rfl ?_ ?_
 intro c5
 refine ae (ah (aa rfl (ai rfl) (aa rfl (ai rfl) (aa rfl (ai rfl) (aa rfl (ai rfl) (aa rfl (ai rfl) (ag (ab (av (aE (au (.inl rfl) (.cons (ak rfl) (.cons (ak rfl) (.cons (ak rfl) (.cons (ak rfl) (.cons (ak rfl) .nil))))) ?_)))))))))))
 exact ⟨_, ⟨rfl, rfl⟩, inferInstance⟩
 intro c5
 exact absurd rfl c5
theorem xf (W0 : World) (R : List HP) (c : Cfg) (h : CfK W0 c) (hr : rt c = true) :
    aC Tryz.prog W0 12 [.agg (bU c).toArray, .slice none 0 0, .slice none 0 0] R
      (fun v B => ∃ hb ps pb db qb gb wb a cap a2 n2 cap2 gbs, gbs.length = c.gl.length ∧ v = .tuple #[pV hb, .slice a gbs.length cap, pV wb, .slice a2 n2 cap2, .bool true] ∧ B = pC c hb ps pb db qb gb a cap gbs R) := by
 have hR := fb hr
 have hnd := hR.nd
 have hg4 := hR.g4
 have hn : 0 < bp c ∧ bp c ≤ 32 := by rw [bp]; omega
 have hlr : (List.replicate (bp c) bE).length = bp c := by simp
 refine aG func12 ntmps12 rfl rfl ?_
 refine ae (ah (am rfl (bJ rfl) ?_))
 rintro _ _ ⟨bc, rfl, rfl⟩
 refine aa rfl (ai rfl) (aa rfl (ai rfl) (aa rfl (ai rfl) (aa rfl (ai rfl) (aa rfl (ai rfl) (ag (ab (ae (ah (aa rfl (cp cn bN rfl rfl) ?_)))))))))
 refine aa rfl (ac rfl) (am rfl (aU call19 rfl (Dv W0 _ c h hr)) ?_)
 rintro _ B_ ⟨hb, ps, pb, db, qb, gb, dx, rfl, hB_⟩
 obtain rfl := hB_.symm
 refine aa rfl (ac rfl) (aa rfl (aS rfl rfl) (aa rfl (aS rfl rfl) (aa rfl (ai rfl) (aa rfl (ai rfl) (ag (ab (ae (ah (aa rfl (cp cn bN rfl rfl) ?_)))))))))
 refine aa rfl (ac rfl) (am rfl (aU call32 rfl (DG W0 _ c h hr)) ?_)
 rintro _ B_ ⟨wb, qs, rpb, x, y, z, rfl, hB_⟩
 obtain rfl := hB_.symm
 refine aa rfl (ac rfl) (aa rfl (aS rfl rfl) (aa rfl (aS rfl rfl) (aa rfl (ai rfl) (aa rfl (ai rfl) (ag (ab (ae (ae (ah (aa rfl (ac rfl) (aa rfl (ac rfl) (aa rfl (bI rfl rfl) (aa rfl (ac rfl) ?_)))))))))))))
 refine bC rfl rfl rfl ?_ ?_
 intro g3_4
 exact absurd g3_4 (by decide)
 intro g3_4
 refine aa rfl (ac rfl) (ar rfl rfl (aa rfl (dv nU rfl rfl) (ar rfl rfl (aa rfl (ac rfl) (ar rfl rfl (aa rfl (dv tw rfl rfl) (ar rfl rfl (aa rfl (tX pW rfl rfl) ?_))))))))
 refine aa rfl (aM rfl rfl) (ag (ab ?_))
 refine aw rfl ?_ ?_
 intro c3
 exact absurd rfl c3
 intro c3
 refine aB (ab (ae (ae (ah (aa rfl (ac rfl) (aa rfl (dv tw rfl rfl) (ag (ab ?_))))))))
 refine aw rfl ?_ ?_
 intro c5
 cases c5
 intro c5
 refine aB (ab (ae (ah (aa rfl (ai rfl) (ag (ab (ae (ah (aa rfl (ai rfl) (ag (ab (ae (ae (ah (aa rfl (ai rfl) (ag (ab (aW ?_))))))))))))))))))
 refine cT (fun X : Nat × List Nat × List Nat × (Option Addr × Nat) × (Option Addr × Nat) × Po => X.1 ≤ c.gl.length ∧ X.2.1.length = X.1 ∧ X.2.2.1.length = X.1 ∧ PoOk X.2.2.2.2.2 ∧ X.2.2.2.2.2.length = bp c ∧ ∀ j, X.1 ≤ j → j < c.gl.length → (d5 c j).2.1 ≤ ((bP X.2.2.2.2.2 j).length : Int)) (fun X => [(2, .slice none 0 0), (3, pV bc), (11, pV hb), (13, pV wb), (15, .slice X.2.2.2.1.1 X.2.1.length X.2.2.2.1.2), (16, .slice X.2.2.2.2.1.1 X.2.2.1.length X.2.2.2.2.1.2), (17, .int .i64 X.1)]) (fun X => pt bc (dd c) :: pC c hb ps pb db qb gb X.2.2.2.1.1 X.2.2.2.1.2 X.2.1 (da pb (ps, X.2.2.2.2.2) :: pt wb (ax (kX c qs rpb x y z) 110) :: d6 rpb (qs, X.2.2.2.2.2) :: cZ qs (List.replicate (bp c) bE) :: osl 101 1 (.slice X.2.2.2.2.1.1 X.2.2.1.length X.2.2.2.2.1.2) (X.2.2.1.map pV) :: R)) (fun X => c.gl.length - X.1) (0, [], [], (none, 0), (none, 0), d9 c (bp c)) ?_ ?_ ?_ ?_
 refine ⟨Nat.zero_le _, rfl, rfl, wm hR _, lW _ _, fun j _ hj => ?_⟩
 have := Cw hR hj
 have := hR.gs j hj
 show (d5 c j).2.1 ≤ ((bP (d9 c (bp c)) j).length : Int)
 omega
 · repeat (first | exact aX | refine aV rfl ?_)
 exact DW
 intro ⟨i, gbs, wbs, ⟨a, cap⟩, ⟨a2, cap2⟩, po⟩ ⟨hi, hgl, hwl, hpo, hpl, hfr⟩
 dsimp only at hi hgl hwl hpo hpl hfr ⊢
 refine ae (ae (ah (aa rfl (ac rfl) ?_)))
 refine aa rfl (al rfl bw rfl dD rfl (by first | exact Nat.zero_add _ | rfl)) ?_
 refine aa rfl (ao dN rfl (aA rfl)) ?_
 refine aa rfl (bu dq rfl) (aa rfl (b0 rfl rfl) (ag (ab ?_)))
 refine aw rfl ?_ ?_
 intro c10
 refine aB (ab (ae (aW (ae (ah (aa rfl (ai rfl) (ag (ab (ae (ae (ah (aa rfl (ac rfl) (aa rfl (ac rfl) (aa rfl (bu underlying88 rfl) (aa rfl (b0 rfl rfl) (ag (ab ?_)))))))))))))))))
 refine aw rfl ?_ ?_
 intro c13
 omega
 intro c13
 refine aB (ab (ae ?_))
 have hi1 : i < c.gl.length := by omega
 have hlok : ImOk (eR c i [] (List.replicate (bp c) bE) po) := kJ (by omega) ⟨dZ.new _, hpo, pu, by rw [hlr]; exact hpl⟩
 have hlf := DO (c := c) (i := i) (fr := List.replicate (bp c) bE) (po := po)
 obtain ⟨po2, hpo2⟩ : ∃ po2, (eR c i [] (List.replicate (bp c) bE) po).po = po2 := ⟨_, rfl⟩
 have hlo : ∀ j, j ≠ i → bP po2 j = bP po j := fun j hj => by rw [← hpo2]; exact DT hj
 have hok2 : PoOk po2 := by rw [← hpo2]; exact hlok.po
 have hpl2 : po2.length = bp c := by rw [← hpo2, hlok.len, hlf]; exact hlr
 refine cA [(bc, 0, _)] 13 cz rfl (aK aJ) (fun hS => ?_)
 refine aj 0 rfl rfl (by kernel_rfl) (by kernel_rfl) (by kernel_rfl) rfl hS (cV cn bN rfl (dm (k := 0) rfl) rfl) ?_
 refine aj 1 rfl rfl (by kernel_rfl) (by kernel_rfl) (by kernel_rfl) rfl hS (ac rfl) ?_
 refine aj 2 rfl rfl (by kernel_rfl) (by kernel_rfl) (by kernel_rfl) rfl hS (ac rfl) ?_
 refine aj 4 rfl rfl (by kernel_rfl) (by kernel_rfl) (by kernel_rfl) rfl hS (ac rfl) ?_
 refine aj 6 rfl rfl (by kernel_rfl) (by kernel_rfl) (by kernel_rfl) rfl hS (ac rfl) ?_
 refine bA 3 (by kernel_rfl) rfl rfl (bn call21 rfl (DI hb c ps pb db qb gb)) rfl ?_; clear hS
 rintro _ B_ ⟨rfl, hB_⟩
 obtain rfl := hB_.symm
 refine ⟨(aK aJ), fun hS => ?_⟩
 refine bA 5 (by kernel_rfl) rfl rfl (bn call22 rfl (DJ hb c ps pb db qb gb)) rfl ?_; clear hS
 rintro _ B_ ⟨rfl, hB_⟩
 obtain rfl := hB_.symm
 refine ⟨(aK aJ), fun hS => ?_⟩
 refine bA 7 (by kernel_rfl) rfl rfl (eX call33 rfl (De W0 _ c h hr i hi1 ps pb (List.replicate (bp c) bE) po (dZ.new _) hpo (by rw [hlr]; exact hpl) (by rw [hlr]; omega) (hfr i (Nat.le_refl _) hi1) none 0 [] (fun A => qU) (fun y hy => by cases hy) (by decide))) rfl ?_; clear hS
 rintro _ B_ ⟨g, bd, bt, bs, q0, q1, q2, wg, pv, pm, bx, tr, rfl, hB_⟩
 obtain rfl := hB_.symm
 rw [hlf, hpo2]
 refine ⟨(aK aJ), fun hS => ?_⟩
 refine aj 8 rfl rfl (by kernel_rfl) (by kernel_rfl) (by kernel_rfl) rfl hS (ac rfl) ?_
 refine aj 9 rfl rfl (by kernel_rfl) (by kernel_rfl) (by kernel_rfl) rfl hS (aS rfl rfl) ?_
 refine aj 10 rfl rfl (by kernel_rfl) (by kernel_rfl) (by kernel_rfl) rfl hS (aS rfl rfl) ?_
 refine aj 11 rfl rfl (by kernel_rfl) (by kernel_rfl) (by kernel_rfl) rfl hS (ai rfl) ?_
 refine aj 12 rfl rfl (by kernel_rfl) (by kernel_rfl) (by kernel_rfl) rfl hS (ai rfl) ?_
 refine bL (by kernel_rfl) ?_; clear hS
 refine ab (ae (ed (r := pt) (b := bd.v) ?_))
 refine ed (r := cq) (b := tr) ?_
 refine ed (r := pt) (b := bd.r) ?_
 refine ed (r := pt) (b := g) ?_
 refine f9 (DK (x := fK) DL rfl (fun _ => rfl)) ?_
 refine f9 (B := fj g fK :: da pb (ps, po2) :: bG ps (List.replicate (bp c) bE) :: pt hb (ax (fc c ps pb db qb gb) 68) :: pt bc (dd c) :: pt gb (ia c.cats c.gate c.quota) :: osl 50 1 (.slice a gbs.length cap) (gbs.map pV) :: kH 2 (bB (gbs.map fun g => fj g fK)) :: pt wb (ax (kX c qs rpb x y z) 110) :: d6 rpb (qs, po) :: cZ qs (List.replicate (bp c) bE) :: osl 101 1 (.slice a2 wbs.length cap2) (wbs.map pV) :: R) (Ent.cons inferInstance) ?_
 refine cA [(bc, 0, _), (wb, 0, _)] 17 cz rfl (aK (aK aJ)) (fun hS => ?_)
 refine aj 0 rfl rfl (by kernel_rfl) (by kernel_rfl) (by kernel_rfl) rfl hS (cV cn bN rfl (by first | exact dm (k := 0) rfl | exact dm (k := 1) rfl) rfl) ?_
 refine aj 1 rfl rfl (by kernel_rfl) (by kernel_rfl) (by kernel_rfl) rfl hS (ac rfl) ?_
 refine aj 2 rfl rfl (by kernel_rfl) (by kernel_rfl) (by kernel_rfl) rfl hS (ac rfl) ?_
 refine aj 3 rfl rfl (by kernel_rfl) (by kernel_rfl) (by kernel_rfl) rfl hS (aF rfl) ?_
 refine aj 4 rfl rfl (by kernel_rfl) (by kernel_rfl) (by kernel_rfl) rfl hS (al rfl yt rfl jJ rfl (by first | exact Nat.zero_add _ | rfl)) ?_
 refine aj 5 rfl rfl (by kernel_rfl) (by kernel_rfl) (by kernel_rfl) rfl hS (ao tf rfl (by first | exact aD (k := 0) rfl rfl | exact aD (k := 1) rfl rfl)) ?_
 refine aj 6 rfl rfl (by kernel_rfl) (by kernel_rfl) (by kernel_rfl) rfl hS (ac rfl) ?_
 refine aj 7 rfl rfl (by kernel_rfl) (by kernel_rfl) (by kernel_rfl) rfl hS (aF rfl) ?_
 refine aj 8 rfl rfl (by kernel_rfl) (by kernel_rfl) (by kernel_rfl) rfl hS (al rfl yt rfl nT rfl (by first | exact Nat.zero_add _ | rfl)) ?_
 refine aj 9 rfl rfl (by kernel_rfl) (by kernel_rfl) (by kernel_rfl) rfl hS (ao isAgg105 rfl (by first | exact aD (k := 0) rfl rfl | exact aD (k := 1) rfl rfl)) ?_
 refine aj 10 rfl rfl (by kernel_rfl) (by kernel_rfl) (by kernel_rfl) rfl hS (ac rfl) ?_
 refine bA 11 (by kernel_rfl) rfl rfl (eX call34 rfl (Dj W0 _ c h hr i hi1 qs rpb (List.replicate (bp c) bE) po (dZ.new _) hpo (by rw [hlr]; exact hpl) (by rw [hlr]; omega) (hfr i (Nat.le_refl _) hi1) none 0 [] (fun A => qU) (fun y hy => by cases hy) (by decide) (Nat.le_refl _))) rfl ?_; clear hS
 rintro _ B_ ⟨w, rfl, hB_⟩
 obtain rfl := hB_.symm
 rw [hlf, hpo2]
 refine ⟨(aK (aK aJ)), fun hS => ?_⟩
 refine aj 12 rfl rfl (by kernel_rfl) (by kernel_rfl) (by kernel_rfl) rfl hS (ac rfl) ?_
 refine aj 13 rfl rfl (by kernel_rfl) (by kernel_rfl) (by kernel_rfl) rfl hS (aS rfl rfl) ?_
 refine aj 14 rfl rfl (by kernel_rfl) (by kernel_rfl) (by kernel_rfl) rfl hS (aS rfl rfl) ?_
 refine aj 15 rfl rfl (by kernel_rfl) (by kernel_rfl) (by kernel_rfl) rfl hS (ai rfl) ?_
 refine aj 16 rfl rfl (by kernel_rfl) (by kernel_rfl) (by kernel_rfl) rfl hS (ai rfl) ?_
 refine bL (by kernel_rfl) ?_; clear hS
 refine ab (ae (ae (ah (aa rfl (ac rfl) (aa rfl (ac rfl) (aa rfl (bI rfl rfl) (aa rfl (ac rfl) ?_)))))))
 refine bC rfl rfl rfl ?_ ?_
 intro g17_4
 exact absurd g17_4 (by decide)
 intro g17_4
 refine aa rfl (ac rfl) (ar rfl rfl (aa rfl (dv tx rfl rfl) (aa rfl (aM rfl rfl) (aa rfl (ac rfl) ?_))))
 refine bC rfl rfl rfl ?_ ?_
 intro g17_8
 first | exact absurd g17_8 (by decide) | (cases g17_8)
 intro g17_8
 refine aa rfl (ac rfl) (ar rfl rfl (aa rfl (dv underlying101 rfl rfl) (aa rfl (aM rfl rfl) (ag (ab ?_)))))
 refine aw rfl ?_ ?_
 intro c17
 first | exact absurd c17 (by decide) | (cases c17)
 intro c17
 refine aB (ab (ae (ah (aa rfl (ac rfl) (aa rfl (ac rfl) ?_)))))
 refine am rfl (gD fC fD zeroValue50 rfl rfl rfl rfl rfl (by decide) (by decide)) ?_
 rintro _ _ ⟨b2, rfl, rfl⟩
 refine am rfl (dP (sz := 1) (by_ := 8) (info := Tryz.t50) fC (by kernel_rfl) rfl rfl rfl rfl (by decide) rfl rfl dQ rfl rfl (by simp only [maxLen]; omega) (by omega)) ?_
 rintro _ _ ⟨a3, c3, rfl, rfl⟩
 refine aa rfl (ai rfl) (ag (ab (ah (aa rfl (ac rfl) (aa rfl (ac rfl) ?_)))))
 refine am rfl (gD Fp sizeOf101 zeroValue101 rfl rfl rfl rfl rfl (by decide) (by decide)) ?_
 rintro _ _ ⟨b3, rfl, rfl⟩
 refine am rfl (dP (sz := 1) (by_ := 8) (info := Tryz.t101) Fp (by kernel_rfl) rfl rfl rfl rfl (by decide) rfl rfl dQ rfl rfl (by simp only [maxLen]; omega) (by omega)) ?_
 rintro _ _ ⟨a4, c4, rfl, rfl⟩
 refine aa rfl (ai rfl) (ag (bH (ab (ah (aa rfl (ac rfl) ?_)))))
 refine aa rfl (bF rfl rfl (by first | exact aZ (by omega) | rfl)) ?_
 refine aa rfl (ai rfl) (ag (ab ?_))
 refine cG (i + 1, gbs ++ [g], wbs ++ [w], (a3, c3), (a4, c4), po2) ?_ ?_ ?_ ?_
 refine ⟨by omega, by show (gbs ++ [g]).length = i + 1; simp [hgl], by show (wbs ++ [w]).length = i + 1; simp [hwl], hok2, hpl2, fun j h1 h2 => ?_⟩
 show (d5 c j).2.1 ≤ ((bP po2 j).length : Int)
 rw [hlo j (by omega)]
 exact hfr j (by omega) h2
 show c.gl.length - (i + 1) < c.gl.length - i; omega
 · dsimp only
   rw [show (gbs ++ [g]).length = gbs.length + 1 by simp, show (wbs ++ [w]).length = wbs.length + 1 by simp]
   repeat (first | exact aX | refine aV rfl ?_)
 dsimp only
 refine Ent.trans (B := fj g fK :: kH 2 (bB (gbs.map fun g => fj g fK)) :: pt bc (dd c) :: pt hb (ax (fc c ps pb db qb gb) 68) :: pt gb (ia c.cats c.gate c.quota) :: bG ps (List.replicate (bp c) bE) :: osl 50 1 (.slice a3 (gbs.length + 1) c3) (gbs.map pV ++ [pV g]) :: da pb (ps, po2) :: pt wb (ax (kX c qs rpb x y z) 110) :: d6 rpb (qs, po2) :: cZ qs (List.replicate (bp c) bE) :: osl 101 1 (.slice a4 (wbs.length + 1) c4) (wbs.map pV ++ [pV w]) :: R) inferInstance ?_
 refine Ent.trans DU ?_
 unfold pC
 rw [show (gbs ++ [g]).length = gbs.length + 1 by simp, show (gbs ++ [g]).map pV = gbs.map pV ++ [pV g] by simp, show (wbs ++ [w]).length = wbs.length + 1 by simp, show (wbs ++ [w]).map pV = wbs.map pV ++ [pV w] by simp]
 exact inferInstance
 intro c10
 refine cj (bi (bi (co (ab (ae (ah (aa rfl (ac rfl) (aa rfl (ac rfl) (aa rfl (ac rfl) (aa rfl (ac rfl) (aa rfl (ai rfl) (aa rfl (ai rfl) (aa rfl (ai rfl) (aa rfl (ai rfl) (aa rfl (ai rfl) (ag (ab (av (au (.inl rfl) (.cons (ak rfl) (.cons (ak rfl) (.cons (ak rfl) (.cons (ak rfl) (.cons (ak rfl) .nil))))) ?_)))))))))))))))))))
 obtain rfl : i = c.gl.length := by omega
 exact ⟨_, ⟨hb, ps, pb, db, qb, gb, wb, a, cap, a2, wbs.length, cap2, gbs, hgl, rfl, rfl⟩, inferInstance⟩
abbrev bT (cs : List Value) : Obj := ax cs 142
section
variable {rb vb pv tr : Nat} {cs : List Value}
theorem m5 (gb : Nat) (h : GC rb vb pv tr cs) : aC Tryz.prog W0 43 [pV gb] (pt gb (bT cs) :: R) (fun v B => v = .bool false ∧ B = pt gb (bT cs) :: R) := by
 refine aG func43 ntmps43 rfl rfl ?_
 refine ae (ah (aa rfl (ai rfl) (ag (ab (ae (ah (aa rfl (ac rfl) (aa rfl (dv tx rfl rfl) (aa rfl (ac rfl) ?_)))))))))
 refine bC rfl rfl rfl ?_ ?_
 intro g1_3
 cases g1_3
 intro g1_3
 refine aa rfl (ac rfl) (ar rfl rfl (aa rfl (aF rfl) (ar rfl rfl ?_)))
 refine aa rfl (al rfl ii rfl pR rfl (by first | exact Nat.zero_add _ | rfl)) ?_
 refine ar rfl rfl (aa rfl (ao isAgg139 rfl (aA h.cw)) ?_)
 refine ar rfl rfl (aa rfl (dv Fj rfl rfl) (aa rfl (aM rfl rfl) (aa rfl (ai rfl) (ag (ab (av (au (.inl rfl) (.cons (ak rfl) .nil) ?_)))))))
 exact ⟨_, ⟨rfl, rfl⟩, inferInstance⟩
theorem sJ (gb : Nat) (rl : List Nat) (pc : Nat) (h : GC rb vb pv tr cs) (hl : rl.length = 16) : aC Tryz.prog W0 17 [pV gb] (pt gb (bT cs) :: pt rb (bS rl pc) :: R) (fun v B => v = .agg (rl.map wV).toArray ∧ B = pt gb (bT cs) :: pt rb (bS rl pc) :: R) := by
 refine aG func17 ntmps17 rfl rfl ?_
 refine ae (ah (am rfl (cM y1) ?_))
 rintro _ _ ⟨b1, rfl, rfl⟩
 refine ag (ab (ae (ae (ah (aa rfl (ac rfl) (am rfl (bn nV rfl (m5 gb h)) ?_))))))
 rintro _ B_ ⟨rfl, hB_⟩
 obtain rfl := hB_.symm
 refine ag (ab ?_)
 refine aw rfl ?_ ?_
 intro c1
 exact absurd c1 (by decide)
 intro c1
 refine aB (ab (ae (ah (aa rfl (ac rfl) (aa rfl (aF rfl) ?_)))))
 refine aa rfl (al rfl ii rfl gz rfl (by first | exact Nat.zero_add _ | rfl)) ?_
 refine aa rfl (al rfl je rfl jK rfl (by first | exact Nat.zero_add _ | rfl)) ?_
 refine aa rfl (ao ln rfl (aA h.cr)) ?_
 refine am rfl (bn call44 rfl (wz rb rl pc hl)) ?_
 rintro _ B_ ⟨rfl, hB_⟩
 obtain rfl := hB_.symm
 refine bD (cD iY rfl rfl (by rw [List.length_map, hl]) (wy rl) rfl) ?_
 rintro _ _ rfl
 refine ag (ab (av ?_))
 refine au (.inl rfl) (.cons (fG y2 iY rfl (by rw [List.length_map, hl])) .nil) ?_
 exact ⟨_, ⟨rfl, rfl⟩, inferInstance⟩
theorem xg (gb : Nat) (rl : List Nat) (pc i x : Nat) (h : GC rb vb pv tr cs) (hl : rl.length = 16) (hi : i < 16) (h0 : i ≠ 0) : aC Tryz.prog W0 35 [pV gb, .int .i64 i, wV x] (pt gb (bT cs) :: pt rb (bS rl pc) :: R) (fun v B => v = .int .i64 0 ∧ B = pt gb (bT cs) :: pt rb (bS (rl.set i x) pc) :: R) := by
 refine aG func35 ntmps35 rfl rfl ?_
 refine ae (ah (aa rfl (ai rfl) (ag (ab (ae (ae (ah (aa rfl (ac rfl) (am rfl (bn nV rfl (m5 gb h)) ?_)))))))))
 rintro _ B_ ⟨rfl, hB_⟩
 obtain rfl := hB_.symm
 refine ag (ab ?_)
 refine aw rfl ?_ ?_
 intro c1
 exact absurd c1 (by decide)
 intro c1
 refine aB (ab (ae (ah (aa rfl (ac rfl) (aa rfl (aF rfl) ?_)))))
 refine aa rfl (al rfl ii rfl gz rfl (by first | exact Nat.zero_add _ | rfl)) ?_
 refine aa rfl (al rfl je rfl jK rfl (by first | exact Nat.zero_add _ | rfl)) ?_
 refine aa rfl (ao ln rfl (aA h.cr)) ?_
 refine aa rfl (ac rfl) (aa rfl (ac rfl) (am rfl (bn yu rfl (sg rb rl pc i x hl hi h0)) ?_))
 rintro _ B_ ⟨rfl, hB_⟩
 obtain rfl := hB_.symm
 refine aa rfl (ai rfl) (ag (ab (av (au (.inl rfl) (.cons (ak rfl) .nil) ?_))))
 exact ⟨_, ⟨rfl, rfl⟩, inferInstance⟩
theorem DZ (gb : Nat) (h : GC rb vb pv tr cs) : aC Tryz.prog W0 30 [pV gb] (pt gb (bT cs) :: R) (fun v B => v = pV tr ∧ B = pt gb (bT cs) :: R) := by
 refine aG func30 ntmps30 rfl rfl ?_
 refine ae (ah (aa rfl (ai rfl) (ag (ab (ae (ae (ah (aa rfl (ac rfl) (am rfl (bn nV rfl (m5 gb h)) ?_)))))))))
 rintro _ B_ ⟨rfl, hB_⟩
 obtain rfl := hB_.symm
 refine ag (ab ?_)
 refine aw rfl ?_ ?_
 intro c1
 exact absurd c1 (by decide)
 intro c1
 refine aB (ab (ae (ah (aa rfl (ac rfl) (aa rfl (aF rfl) ?_)))))
 refine aa rfl (al rfl ii rfl to rfl (by first | exact Nat.zero_add _ | rfl)) ?_
 refine aa rfl (ao isAgg94 rfl (aA h.ct)) ?_
 refine aa rfl (ai rfl) (ag (ab (av (au (.inl rfl) (.cons (ak rfl) .nil) ?_))))
 exact ⟨_, ⟨rfl, rfl⟩, inferInstance⟩
theorem E0 (gb : Nat) (h : GC rb vb pv tr cs) : aC Tryz.prog W0 56 [pV gb] (pt gb (bT cs) :: R) (fun v B => v = pV vb ∧ B = pt gb (bT cs) :: R) := by
 refine aG func56 ntmps56 rfl rfl ?_
 refine ae (ah (aa rfl (ai rfl) (ag (ab (ae (ae (ah (aa rfl (ac rfl) (am rfl (bn nV rfl (m5 gb h)) ?_)))))))))
 rintro _ B_ ⟨rfl, hB_⟩
 obtain rfl := hB_.symm
 refine ag (ab ?_)
 refine aw rfl ?_ ?_
 intro c1
 exact absurd c1 (by decide)
 intro c1
 refine aB (ab (ae (ah (aa rfl (ac rfl) (aa rfl (aF rfl) ?_)))))
 refine aa rfl (al rfl ii rfl gz rfl (by first | exact Nat.zero_add _ | rfl)) ?_
 refine aa rfl (al rfl je rfl yh rfl (by first | exact Nat.zero_add _ | rfl)) ?_
 refine aa rfl (ao isAgg135 rfl (aA h.cv)) ?_
 refine aa rfl (ai rfl) (ag (ab (av (au (.inl rfl) (.cons (ak rfl) .nil) ?_))))
 exact ⟨_, ⟨rfl, rfl⟩, inferInstance⟩
theorem E1 (b : Nat) (rl : List Nat) (pc i : Nat) (hl : rl.length = 16) (hi : i < 16) : aC Tryz.prog W0 105 [pV b, .int .i64 i] (pt b (bS rl pc) :: R) (fun v B => v = .tuple #[wV (rl.getD i 0), .int .i64 0] ∧ B = pt b (bS rl pc) :: R) := by
 have hir : jZ i = true := by simp only [jZ, decide_eq_true_eq]; omega
 have hg : (rl.map wV ++ [Value.bool true, wV pc])[i * 1]? = some (wV (rl.getD i 0)) := by
  rw [Nat.mul_one, List.getElem?_append_left (by rw [List.length_map, hl]; exact hi)]
  simp [List.getD, show i < rl.length by omega]
 refine aG func105 ntmps105 rfl rfl ?_
 refine ae (ah (aa rfl (ai rfl) (aa rfl (ai rfl) (ag (ab (ae (ae (ah (aa rfl (ac rfl) (aa rfl (dv pP rfl rfl) (ag (ab ?_))))))))))))
 refine aw rfl ?_ ?_
 intro c1
 cases c1
 intro c1
 refine aB (ab (ae (ae (ah (aa rfl (ac rfl) (aa rfl (aF rfl) ?_))))))
 refine aa rfl (al rfl km rfl lh rfl (by first | exact Nat.zero_add _ | rfl)) ?_
 refine aa rfl (ac rfl) (am rfl (bn call217 rfl (wA b rl pc hl i)) ?_)
 rintro _ B_ ⟨rfl, hB_⟩
 obtain rfl := hB_.symm
 refine aa rfl (ai rfl) (ag (ab (ae (ah (aa rfl (ac rfl) (aa rfl (bI rfl rfl) (ag (ab ?_))))))))
 refine aw rfl ?_ ?_
 intro c4
 exact absurd c4 (by rw [hir]; decide)
 intro c4
 refine aB (ab (ae (ah (aa rfl (ac rfl) (aa rfl (ac rfl) (aa rfl (aF rfl) ?_))))))
 refine aa rfl (al rfl km rfl lh rfl (by first | exact Nat.zero_add _ | rfl)) ?_
 refine aa rfl (al rfl nO rfl iY rfl (by first | exact Nat.zero_add _ | rfl)) ?_
 refine aa rfl (dO nP cQ rfl rfl rfl hi (by first | exact Nat.zero_add _ | rfl)) ?_
 refine aa rfl (ao fm rfl (aA hg)) ?_
 refine aa rfl (ai rfl) (aa rfl (ai rfl) (ag (ab (av (au (.inl rfl) (.cons (ak rfl) (.cons (ak rfl) .nil)) ?_)))))
 exact ⟨_, ⟨rfl, rfl⟩, inferInstance⟩
theorem E2 (gb : Nat) (h : GC rb vb pv tr cs) : aC Tryz.prog W0 242 [pV gb] (pt gb (bT cs) :: R) (fun v B => v = .int .i64 0 ∧ B = pt gb (bT cs) :: R) := by
 refine aG func242 ntmps242 rfl rfl ?_
 refine ae (ah (aa rfl (ai rfl) (ag (ab (ae (ah (aa rfl (ac rfl) (aa rfl (aF rfl) ?_))))))))
 refine aa rfl (al rfl ii rfl az rfl (by first | exact Nat.zero_add _ | rfl)) ?_
 refine aa rfl (ao aQ rfl (aA h.cc)) ?_
 refine aa rfl (dX rfl rfl (r := -1) rfl) ?_
 refine aa rfl (uW rfl rfl (r := 0) rfl) ?_
 refine aa rfl (ai rfl) (ag (ab (av (au (.inl rfl) (.cons (ak rfl) .nil) ?_))))
 exact ⟨_, ⟨rfl, rfl⟩, inferInstance⟩
theorem E3 (k ck : Int) (a b d : Nat) (rl : List Nat) (h : rl.length = 16) (zs : List Value) (hz : zs.length = 16) : setR ([.int .i64 k, .int .i64 ck, wV a, wV b, wV d] ++ zs) 5 (rl.map wV) = [.int .i64 k, .int .i64 ck, wV a, wV b, wV d] ++ rl.map wV :=
  oc (rl.map wV) zs [.int .i64 k, .int .i64 ck, wV a, wV b, wV d] (by rw [List.length_map, h, hz])
theorem E4 {S : World → Prop} {N : FSz} {e : bQ} {o0 o1 o2 o3 o4 o5 : Operand} {k ck : Int} {a b d : Nat} {rl : List Nat} (hl : rl.length = 16) (h0 : ev e o0 = some (.int .i64 k)) (h1 : ev e o1 = some (.int .i64 ck)) (h2 : ev e o2 = some (wV a)) (h3 : ev e o3 = some (wV b)) (h4 : ev e o4 = some (wV d)) (h5 : ev e o5 = some (.agg (rl.map wV).toArray)) :
    cC Tryz.prog S N e (.build 407 #[(0, o0), (1, o1), (2, o2), (3, o3), (4, o4), (5, o5)]) (.agg ([Value.int .i64 k, .int .i64 ck, wV a, wV b, wV d] ++ rl.map wV).toArray) :=
  bY (l' := [Value.int .i64 k, .int .i64 ck, wV a, wV b, wV d] ++ rl.map wV) underlying407 y9 (aH az (aH az (aH cQ (aH cQ (aH cQ (aH iY bX))))))
    (bq (l' := [.int .i64 k, .int .i64 0, .int .u32 0, .int .u32 0, .int .u32 0] ++ List.replicate 16 (.int .u32 0)) rfl az h0 rfl (Nat.le_of_ble_eq_true rfl) rfl
    (bq (l' := [.int .i64 k, .int .i64 ck, .int .u32 0, .int .u32 0, .int .u32 0] ++ List.replicate 16 (.int .u32 0)) rfl az h1 rfl (Nat.le_of_ble_eq_true rfl) rfl
    (bq (l' := [.int .i64 k, .int .i64 ck, wV a, .int .u32 0, .int .u32 0] ++ List.replicate 16 (.int .u32 0)) rfl cQ h2 rfl (Nat.le_of_ble_eq_true rfl) rfl
    (bq (l' := [.int .i64 k, .int .i64 ck, wV a, wV b, .int .u32 0] ++ List.replicate 16 (.int .u32 0)) rfl cQ h3 rfl (Nat.le_of_ble_eq_true rfl) rfl
    (bq (l' := [.int .i64 k, .int .i64 ck, wV a, wV b, wV d] ++ List.replicate 16 (.int .u32 0)) rfl cQ h4 rfl (Nat.le_of_ble_eq_true rfl) rfl
    (im rfl iY h5 (by rw [List.length_map, hl]) (by simp) (E3 k ck a b d rl hl _ (by simp)) bW))))))
theorem E5 (b : Nat) (es : List Evt) (k ck : Int) (x y z : Nat) (rl : List Nat) (hl : rl.length = 16) (hn : es.length < 4096) : aC Tryz.prog W0 241 [pV b, .agg ([Value.int .i64 k, .int .i64 ck, wV x, wV y, wV z] ++ rl.map wV).toArray] (cq b es :: R) (fun v B => v = .int .i64 0 ∧ B = cq b (es ++ [⟨k, ck, x, y, z, rl⟩]) :: R) := by
 have := CX W0 R b es ⟨k, ck, x, y, z, rl⟩ hn
 rwa [CU (e := ⟨k, ck, x, y, z, rl⟩) hl] at this
theorem E6 (gb : Nat) (rl : List Nat) (pc : Nat) (es : List Evt) (k : Int) (x y z : Nat) (h : GC rb vb pv tr cs) (hl : rl.length = 16) (hn : es.length < 4096) : aC Tryz.prog W0 108 [pV gb, .int .i64 k, wV x, wV y, wV z] (pt gb (bT cs) :: pt rb (bS rl pc) :: cq tr es :: R)
    (fun v B => v = .tuple #[] ∧ B = pt gb (bT cs) :: pt rb (bS rl pc) :: cq tr (es ++ [⟨k, 0, x, y, z, rl⟩]) :: R) := by
 refine aG func108 ntmps108 rfl rfl ?_
 refine cA [(gb, 0, _)] 18 cz rfl (aK aJ) (fun hS => ?_)
 refine aj 0 rfl rfl (by kernel_rfl) (by kernel_rfl) (by kernel_rfl) rfl hS (ac rfl) ?_
 refine aj 1 rfl rfl (by kernel_rfl) (by kernel_rfl) (by kernel_rfl) rfl hS (aF rfl) ?_
 refine aj 2 rfl rfl (by kernel_rfl) (by kernel_rfl) (by kernel_rfl) rfl hS (al rfl ii rfl to rfl (by first | exact Nat.zero_add _ | rfl)) ?_
 refine aj 3 rfl rfl (by kernel_rfl) (by kernel_rfl) (by kernel_rfl) rfl hS (ao isAgg94 rfl (aD (k := 0) rfl h.ct)) ?_
 refine aj 4 rfl rfl (by kernel_rfl) (by kernel_rfl) (by kernel_rfl) rfl hS (ac rfl) ?_
 refine aj 5 rfl rfl (by kernel_rfl) (by kernel_rfl) (by kernel_rfl) rfl hS (ac rfl) ?_
 refine aj 7 rfl rfl (by kernel_rfl) (by kernel_rfl) (by kernel_rfl) rfl hS (ac rfl) ?_
 refine aj 8 rfl rfl (by kernel_rfl) (by kernel_rfl) (by kernel_rfl) rfl hS (ac rfl) ?_
 refine aj 9 rfl rfl (by kernel_rfl) (by kernel_rfl) (by kernel_rfl) rfl hS (ac rfl) ?_
 refine aj 10 rfl rfl (by kernel_rfl) (by kernel_rfl) (by kernel_rfl) rfl hS (ac rfl) ?_
 refine aj 11 rfl rfl (by kernel_rfl) (by kernel_rfl) (by kernel_rfl) rfl hS (aF rfl) ?_
 refine aj 12 rfl rfl (by kernel_rfl) (by kernel_rfl) (by kernel_rfl) rfl hS (al rfl ii rfl gz rfl (by first | exact Nat.zero_add _ | rfl)) ?_
 refine aj 13 rfl rfl (by kernel_rfl) (by kernel_rfl) (by kernel_rfl) rfl hS (al rfl je rfl jK rfl (by first | exact Nat.zero_add _ | rfl)) ?_
 refine aj 14 rfl rfl (by kernel_rfl) (by kernel_rfl) (by kernel_rfl) rfl hS (ao ln rfl (aD (k := 0) rfl h.cr)) ?_
 refine bA 6 (by kernel_rfl) rfl rfl (bn call242 rfl (E2 gb h)) rfl ?_; clear hS
 rintro _ B_ ⟨rfl, hB_⟩
 obtain rfl := hB_.symm
 refine ⟨(aK aJ), fun hS => ?_⟩
 refine bA 15 (by kernel_rfl) rfl rfl (bn call44 rfl (wz rb rl pc hl)) rfl ?_; clear hS
 rintro _ B_ ⟨rfl, hB_⟩
 obtain rfl := hB_.symm
 refine ⟨(aK aJ), fun hS => ?_⟩
 refine aj 16 rfl rfl (by kernel_rfl) (by kernel_rfl) (by kernel_rfl) rfl hS (E4 hl rfl rfl rfl rfl rfl rfl) ?_
 refine bA 17 (by kernel_rfl) rfl rfl (bn call241 rfl (E5 tr es k 0 x y z rl hl hn)) rfl ?_; clear hS
 rintro _ B_ ⟨rfl, hB_⟩
 obtain rfl := hB_.symm
 refine ⟨(aK aJ), fun hS => ?_⟩
 refine bL (by kernel_rfl) ?_; clear hS
 refine au (.inr rfl) .nil ?_
 exact ⟨_, ⟨rfl, rfl⟩, inferInstance⟩
def dp (rl : List Nat) (e w : Nat) : List Nat := (rl.set 1 e).set 2 w
theorem xh (gb : Nat) (rl : List Nat) (pc : Nat) (es : List Evt) (e w : Nat) (h : GC rb vb pv tr cs) (hl : rl.length = 16) (hn : es.length < 4096) (he : e < 100) (hp : pc < 1000) : aC Tryz.prog W0 39 [pV gb, .int .i64 e, wV w] (pt gb (bT cs) :: pt rb (bS rl pc) :: cq tr es :: R)
    (fun v B => v = .int .i64 0 ∧ B = pt gb (bT cs) :: pt rb (bS (dp rl e w) (pc + 4)) :: cq tr (es ++ [⟨2, 0, rl.getD 1 0, e, pc, dp rl e w⟩]) :: R) := by
 have hl2 : (dp rl e w).length = 16 := by simp [dp, hl]
 refine aG func39 ntmps39 rfl rfl ?_
 refine ae (ah (aa rfl (ai rfl) (ag (ab (ae (ae (ah (aa rfl (ac rfl) (am rfl (bn nV rfl (m5 gb h)) ?_)))))))))
 rintro _ B_ ⟨rfl, hB_⟩
 obtain rfl := hB_.symm
 refine ag (ab ?_)
 refine aw rfl ?_ ?_
 intro c1
 exact absurd c1 (by decide)
 intro c1
 refine aB (ab (ae (ah (aa rfl (ac rfl) (aa rfl (aF rfl) ?_)))))
 refine aa rfl (al rfl ii rfl gz rfl (by first | exact Nat.zero_add _ | rfl)) ?_
 refine aa rfl (al rfl je rfl jK rfl (by first | exact Nat.zero_add _ | rfl)) ?_
 refine aa rfl (ao ln rfl (aA h.cr)) ?_
 refine am rfl (bn call105 rfl (E1 rb rl pc 1 hl (by decide))) ?_
 rintro _ B_ ⟨rfl, hB_⟩
 obtain rfl := hB_.symm
 refine aa rfl (ac rfl) (aa rfl (aS rfl rfl) (aa rfl (aS rfl rfl) (aa rfl (ai rfl) (aa rfl (ai rfl) (ag (ab (ae (ah (aa rfl (ac rfl) (aa rfl (aF rfl) ?_))))))))))
 refine aa rfl (al rfl ii rfl gz rfl (by first | exact Nat.zero_add _ | rfl)) ?_
 refine aa rfl (al rfl je rfl jK rfl (by first | exact Nat.zero_add _ | rfl)) ?_
 refine aa rfl (ao ln rfl (aA h.cr)) ?_
 refine am rfl (bn call106 rfl (CK rb rl pc hl)) ?_
 rintro _ B_ ⟨rfl, hB_⟩
 obtain rfl := hB_.symm
 refine aa rfl (ai rfl) (ag (ab (ae (ah (aa rfl (ac rfl) (aa rfl (aF rfl) ?_))))))
 refine aa rfl (al rfl ii rfl gz rfl (by first | exact Nat.zero_add _ | rfl)) ?_
 refine aa rfl (al rfl je rfl jK rfl (by first | exact Nat.zero_add _ | rfl)) ?_
 refine aa rfl (ao ln rfl (aA h.cr)) ?_
 refine aa rfl (ac rfl) ?_
 refine aa rfl (gC Fq gW rfl (jO (by omega))) ?_
 refine am rfl (bn yu rfl (sg rb rl pc 1 e hl (by decide) (by decide))) ?_
 rintro _ B_ ⟨rfl, hB_⟩
 obtain rfl := hB_.symm
 refine ag (ab (ae (ah (aa rfl (ac rfl) (aa rfl (aF rfl) ?_)))))
 refine aa rfl (al rfl ii rfl gz rfl (by first | exact Nat.zero_add _ | rfl)) ?_
 refine aa rfl (al rfl je rfl jK rfl (by first | exact Nat.zero_add _ | rfl)) ?_
 refine aa rfl (ao ln rfl (aA h.cr)) ?_
 refine aa rfl (ac rfl) ?_
 refine am rfl (bn yu rfl (sg rb (rl.set 1 e) pc 2 w (by simp [hl]) (by decide) (by decide))) ?_
 rintro _ B_ ⟨rfl, hB_⟩
 obtain rfl := hB_.symm
 refine ag (ab (ae (ah (aa rfl (ac rfl) (aa rfl (aF rfl) ?_)))))
 refine aa rfl (al rfl ii rfl gz rfl (by first | exact Nat.zero_add _ | rfl)) ?_
 refine aa rfl (al rfl je rfl jK rfl (by first | exact Nat.zero_add _ | rfl)) ?_
 refine aa rfl (ao ln rfl (aA h.cr)) ?_
 refine aa rfl (ac rfl) ?_
 refine aa rfl (bF rfl rfl (by rw [jO (by omega)]; omega : IntKind.wrap .u32 ((pc : Int) + 4) = ((pc + 4 : Nat) : Int))) ?_
 refine am rfl (bn call107 rfl (CL rb (dp rl e w) pc (pc + 4) hl2)) ?_
 rintro _ B_ ⟨rfl, hB_⟩
 obtain rfl := hB_.symm
 refine ag (ab (ae (ah (aa rfl (ac rfl) (aa rfl (ac rfl) (aa rfl (ac rfl) ?_))))))
 refine aa rfl (gC Fq gW rfl (jO (by omega))) ?_
 refine aa rfl (ac rfl) (am rfl (kx call108 rfl (E6 gb (dp rl e w) (pc + 4) es 2 (rl.getD 1 0) e pc h hl2 hn)) ?_)
 rintro _ B_ ⟨rfl, hB_⟩
 obtain rfl := hB_.symm
 refine ag (ab (ae (ah (aa rfl (ai rfl) (ag (ab (av (au (.inl rfl) (.cons (ak rfl) .nil) ?_))))))))
 exact ⟨_, ⟨rfl, rfl⟩, inferInstance⟩
theorem xi {l : List Nat} (h : l.length = 16) : ∃ a0 a1 a2 a3 a4 a5 a6 a7 a8 a9 a10 a11 a12 a13 a14 a15, l = [a0, a1, a2, a3, a4, a5, a6, a7, a8, a9, a10, a11, a12, a13, a14, a15] := by
 match l, h with
 | [a0, a1, a2, a3, a4, a5, a6, a7, a8, a9, a10, a11, a12, a13, a14, a15], _ => exact ⟨a0, a1, a2, a3, a4, a5, a6, a7, a8, a9, a10, a11, a12, a13, a14, a15, rfl⟩
theorem xj (gb : Nat) (rl : List Nat) (pc : Nat) (h : GC rb vb pv tr cs) (hl : rl.length = 16) : aC Tryz.prog W0 37 [pV gb] (pt gb (bT cs) :: pt rb (bS rl pc) :: R)
    (fun v B => v = .tuple #[wV (rl.getD 1 0), .agg #[wV (rl.getD 2 0), wV (rl.getD 3 0), wV (rl.getD 4 0), wV (rl.getD 5 0)]] ∧ B = pt gb (bT cs) :: pt rb (bS rl pc) :: R) := by
 obtain ⟨a0, a1, a2, a3, a4, a5, a6, a7, a8, a9, a10, a11, a12, a13, a14, a15, rfl⟩ := xi hl
 refine aG func37 ntmps37 rfl rfl ?_
 refine ae (ah (aa rfl (ai rfl) (am rfl (cM mj) ?_)))
 rintro _ _ ⟨b1, rfl, rfl⟩
 refine ag (ab (ae (ah (aa rfl (ac rfl) (am rfl (eX yw rfl (sJ gb [a0, a1, a2, a3, a4, a5, a6, a7, a8, a9, a10, a11, a12, a13, a14, a15] pc h hl)) ?_)))))
 rintro _ B_ ⟨rfl, hB_⟩
 obtain rfl := hB_.symm
 refine am rfl (cM y1) ?_
 rintro _ _ ⟨br, rfl, rfl⟩
 refine bD (cD iY rfl rfl rfl rfl rfl) ?_
 rintro _ _ rfl
 refine ag (ab (ae ?_))
 refine cA [(br, 0, _)] 7 cz rfl (aK aJ) (fun hS => ?_)
 refine aj 0 rfl rfl (by kernel_rfl) (by kernel_rfl) (by kernel_rfl) rfl hS (dO nP cQ rfl rfl (i := 1) rfl (by decide) (by first | exact Nat.zero_add _ | rfl)) ?_
 refine aj 1 rfl rfl (by kernel_rfl) (by kernel_rfl) (by kernel_rfl) rfl hS (ao fm rfl (aD (k := 0) rfl rfl)) ?_
 refine aj 2 rfl rfl (by kernel_rfl) (by kernel_rfl) (by kernel_rfl) rfl hS (Bg (i := 2) (h := 6) (o' := 2) nP cQ rfl rfl rfl rfl rfl (by decide) (by decide) (by decide) rfl) ?_
 refine aj 3 rfl rfl (by kernel_rfl) (by kernel_rfl) (by kernel_rfl) rfl hS (Bh ij rfl (by decide)) ?_
 refine aj 4 rfl rfl (by kernel_rfl) (by kernel_rfl) (by kernel_rfl) rfl hS (cV ks ec rfl (Bi (n := 4) (j := 2) (dm (k := 0) rfl) rfl) rfl) ?_
 refine aj 5 rfl rfl (by kernel_rfl) (by kernel_rfl) (by kernel_rfl) rfl hS (ai rfl) ?_
 refine bA 6 (by kernel_rfl) rfl rfl (cD ec rfl rfl rfl rfl rfl) rfl ?_; clear hS
 rintro _ _ rfl
 refine ⟨(aK aJ), fun hS => ?_⟩
 refine bL (by kernel_rfl) ?_; clear hS
 refine ab (av (au (.inl rfl) (.cons (ak rfl) (.cons (fG ks ec rfl rfl) .nil)) ?_))
 exact ⟨_, ⟨rfl, rfl⟩, inferInstance⟩
@[reducible] def jp (gb i n : Nat) (x : List Value) (hb : Nat) (lv : Value) : List Value := [pV gb, .int .i64 i, wV n] ++ x ++ [.int .i64 0, pV hb, lv]
theorem E7 (cb gb i hb : Nat) (a b c d : Nat) (lv : Value) : aC Tryz.prog W0 38 [pV cb] (pt cb (ax (jp gb i 0 [wV a, wV b, wV c, wV d] hb lv) 118) :: R)
    (fun v B => v = .func (.func 230) #[pV cb] #[] ∧ B = pt cb (ax (jp gb i 0 [wV a, wV b, wV c, wV d] hb lv) 118) :: R) := by
 have own : ∀ R, aC Tryz.prog W0 104 [pV cb] (pt cb (ax (jp gb i 0 [wV a, wV b, wV c, wV d] hb lv) 118) :: R)
   (fun v B => v = .func (.func 230) #[pV cb] #[] ∧ B = pt cb (ax (jp gb i 0 [wV a, wV b, wV c, wV d] hb lv) 118) :: R) := fun R => by
   refine aG func104 ntmps104 rfl rfl ?_
   refine ae (ah (aa rfl (ai rfl) (ag (ab (ae (ae (ah (aa rfl (ac rfl) (aa rfl (aF rfl) ?_)))))))))
   refine aa rfl (al rfl dE rfl eu rfl (by first | exact Nat.zero_add _ | rfl)) ?_
   refine aa rfl (al rfl eK rfl cQ rfl (by first | exact Nat.zero_add _ | rfl)) ?_
   refine aa rfl (ao fm rfl (aA rfl)) ?_
   refine ag (ab (aW (ae (ah (aa rfl (cu rfl rfl) (aa rfl (ai rfl) (ag (ab ?_))))))))
   refine aw rfl ?_ ?_
   · intro c2
     refine ae (ah (aa rfl (ac rfl) (aa rfl (ip rfl rfl) ?_)))
     refine aa rfl (ai rfl) (ag (ab (av (bj (aE (au (.inl rfl) (.cons (ak rfl) .nil) ?_))))))
     exact ⟨_, ⟨rfl, rfl⟩, inferInstance⟩
   intro c2
   exact absurd rfl c2
 refine aG tz ntmps38 rfl rfl ?_
 refine ae (ah (aa rfl (ai rfl) (ag (ab (ae (ae (ah (aa rfl (ac rfl) (aa rfl (aF rfl) ?_)))))))))
 refine aa rfl (al rfl dE rfl eu rfl (by first | exact Nat.zero_add _ | rfl)) ?_
 refine aa rfl (al rfl eK rfl cQ rfl (by first | exact Nat.zero_add _ | rfl)) ?_
 refine aa rfl (ao fm rfl (aA rfl)) ?_
 refine ag (ab (aW (ae (ah (aa rfl (cu rfl rfl) (aa rfl (ai rfl) (ag (ab ?_))))))))
 refine aw rfl ?_ ?_
 intro c2
 exact absurd c2 (by decide)
 intro c2
 refine ae (ah (aa rfl (cu rfl rfl) (aa rfl (ai rfl) (ag (ab ?_)))))
 refine aw rfl ?_ ?_
 intro c4
 exact absurd c4 (by decide)
 intro c4
 refine ae (ah (aa rfl (cu rfl rfl) (aa rfl (ai rfl) (ag (ab ?_)))))
 refine aw rfl ?_ ?_
 intro c6
 exact absurd c6 (by decide)
 intro c6
 refine ae (ah (aa rfl (cu rfl rfl) (aa rfl (ai rfl) (ag (ab ?_)))))
 refine aw rfl ?_ ?_
 intro c8
 exact absurd c8 (by decide)
 intro c8
 refine ae (ah (aa rfl (cu rfl rfl) (aa rfl (ai rfl) (ag (ab ?_)))))
 refine aw rfl ?_ ?_
 intro c10
 exact absurd c10 (by decide)
 intro c10
 refine aB (bH (ab (ae (ah (aa rfl (ac rfl) (am rfl (bn call104 rfl (own _)) ?_))))))
 rintro _ B_ ⟨rfl, hB_⟩
 obtain rfl := hB_.symm
 refine aa rfl (ai rfl) (ag (ab (av (au (.inl rfl) (.cons (ak rfl) .nil) ?_))))
 exact ⟨_, ⟨rfl, rfl⟩, inferInstance⟩
theorem E8 (cb gb i hb : Nat) (a b c d : Nat) (lv : Value) (hi : i < 100) : aC Tryz.prog W0 230 ([pV cb] ++ [] ++ []) (pt cb (ax (jp gb i 0 [wV a, wV b, wV c, wV d] hb lv) 118) :: R)
    (fun v B => v = .tuple #[.int .i64 0, wV i] ∧ B = pt cb (ax (jp gb i 0 [wV a, wV b, wV c, wV d] hb lv) 118) :: R) := by
 simp only [List.append_nil]
 refine aG func230 ntmps230 rfl rfl ?_
 refine ae (ah (aa rfl (ai rfl) (aa rfl (ai rfl) (ag (ab (ae ?_))))))
 refine cA [(cb, 0, _)] 8 cz rfl (aK aJ) (fun hS => ?_)
 refine aj 0 rfl rfl (by kernel_rfl) (by kernel_rfl) (by kernel_rfl) rfl hS (ac rfl) ?_
 refine aj 1 rfl rfl (by kernel_rfl) (by kernel_rfl) (by kernel_rfl) rfl hS (aF rfl) ?_
 refine aj 2 rfl rfl (by kernel_rfl) (by kernel_rfl) (by kernel_rfl) rfl hS (al rfl dE rfl eu rfl (by first | exact Nat.zero_add _ | rfl)) ?_
 refine aj 3 rfl rfl (by kernel_rfl) (by kernel_rfl) (by kernel_rfl) rfl hS (al rfl eK rfl az rfl (by first | exact Nat.zero_add _ | rfl)) ?_
 refine aj 4 rfl rfl (by kernel_rfl) (by kernel_rfl) (by kernel_rfl) rfl hS (ao aQ rfl (aD (k := 0) rfl rfl)) ?_
 refine aj 5 rfl rfl (by kernel_rfl) (by kernel_rfl) (by kernel_rfl) rfl hS (gC eb gW rfl (jO (by omega))) ?_
 refine aj 6 rfl rfl (by kernel_rfl) (by kernel_rfl) (by kernel_rfl) rfl hS (ai rfl) ?_
 refine aj 7 rfl rfl (by kernel_rfl) (by kernel_rfl) (by kernel_rfl) rfl hS (ai rfl) ?_
 refine bL (by kernel_rfl) ?_; clear hS
 refine ab (av (au (.inl rfl) (.cons (ak rfl) (.cons (ak rfl) .nil)) ?_))
 exact ⟨_, ⟨rfl, rfl⟩, inferInstance⟩
theorem xk (cb gb i hb n : Nat) (a b c d : Nat) (lv : Value) (h2 : n ≠ 2) (h3 : n ≠ 3) : aC Tryz.prog W0 40 [pV cb] (pt cb (ax (jp gb i n [wV a, wV b, wV c, wV d] hb lv) 118) :: R)
    (fun v B => v = .tuple #[] ∧ B = pt cb (ax (jp gb i n [wV a, wV b, wV c, wV d] hb lv) 118) :: R) := by
 refine aG func40 ntmps40 rfl rfl ?_
 refine ae (ah (aa rfl (ac rfl) (aa rfl (aF rfl) ?_)))
 refine aa rfl (al rfl dE rfl eu rfl (by first | exact Nat.zero_add _ | rfl)) ?_
 refine aa rfl (al rfl eK rfl cQ rfl (by first | exact Nat.zero_add _ | rfl)) ?_
 refine aa rfl (ao fm rfl (aA rfl)) ?_
 refine ag (ab (aW (ae (ah (aa rfl (cu rfl rfl) (aa rfl (ai rfl) (ag (ab ?_))))))))
 refine aw rfl ?_ ?_
 intro c1
 omega
 intro c1
 refine ae (ah (aa rfl (cu rfl rfl) (aa rfl (ai rfl) (ag (ab ?_)))))
 refine aw rfl ?_ ?_
 intro c3
 omega
 intro c3
 refine aB (bH (au (.inr rfl) .nil ?_))
 exact ⟨_, ⟨rfl, rfl⟩, inferInstance⟩
end
end
end Go.Proofs.YtofillmoflhijaaGreat
