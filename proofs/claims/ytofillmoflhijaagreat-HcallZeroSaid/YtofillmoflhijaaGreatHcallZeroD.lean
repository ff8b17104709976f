/-
  Part 4 of the proof of HcallZero: rules, and walks of functions. Conditions: none.
-/
import Derived.Test.YtofillmoflhijaaGreatHcallZeroC
namespace Go.Proofs.YtofillmoflhijaaGreat
open Go.Proofs.Tryz
set_option linter.unusedSimpArgs false
set_option linter.unusedVariables false
set_option maxRecDepth 20000
set_option linter.defProp false
set_option synthInstance.maxSize 8192
set_option synthInstance.maxHeartbeats 2000000
variable {W0 : World} {R : List HP}
section
open Go.RowKit
abbrev dh (rl : List Nat) (pc : Nat) : Obj := aw (rl.map wV ++ [.bool true, wV pc]) 254
theorem uL {rl : List Nat} {pc : Nat} (h : rl.length = 16) : (rl.map wV ++ [Value.bool true, wV pc]).length = 18 := by simp [h]
theorem AO {rl : List Nat} {pc : Nat} (h : rl.length = 16) : ((rl.map wV ++ [Value.bool true, wV pc]).drop 0).take 16 = rl.map wV := by
 rw [List.drop_zero, List.take_left' (by rw [List.length_map, h])]
theorem uM {rl : List Nat} {pc : Nat} (h : rl.length = 16) : (rl.map wV ++ [Value.bool true, wV pc])[16]? = some (.bool true) := by
 rw [List.getElem?_append_right (by rw [List.length_map, h]; exact Nat.le_refl _), List.length_map, h]; rfl
theorem AP {rl : List Nat} {pc : Nat} (h : rl.length = 16) : (rl.map wV ++ [Value.bool true, wV pc])[17]? = some (wV pc) := by
 rw [List.getElem?_append_right (by rw [List.length_map, h]; decide), List.length_map, h]; rfl
theorem AQ {rl : List Nat} {pc q : Nat} (h : rl.length = 16) : (rl.map wV ++ [Value.bool true, wV pc]).set 17 (wV q) = rl.map wV ++ [.bool true, wV q] := by
 rw [List.set_append_right _ _ (by rw [List.length_map, h]; decide), List.length_map, h]; rfl
theorem AR {rl : List Nat} {pc i x : Nat} (h : rl.length = 16) (hi : i < 16) : (rl.map wV ++ [Value.bool true, wV pc]).set (i * 1) (wV x) = (rl.set i x).map wV ++ [.bool true, wV pc] := by
 rw [Nat.mul_one, List.set_append_left _ _ (by rw [List.length_map, h]; exact hi), List.map_set]
theorem uN (rl : List Nat) : en (rl.map wV) = true := by simp [en, wV, Value.oneCell']
section
variable {P : Program} {S : World → Prop} {N : FSz} {e : bK} {t : TypeId} {l : List Value} {v : Value}
theorem AS {E n i : Nat} {y : Operand} (hu : P.underlying t = some (.array n E)) (hs : ∀ w, (sizeOf E).run P w = .ok 1 w) (hz : ∀ w, (zeroValue t).run P w = .ok (.agg l.toArray) w)
    (hy : ev e y = some v) (h1 : v.oneCell' = true) (hi : i < l.length) : cn P S N e (.build t #[(i, y)]) (.agg (l.set i v).toArray) := fun a w _ _ _ _ _ hF _ => by
 have hb : Instr.build t ((#[(i, y)] : Array (Nat × Operand)).map fun (i, x) => (i, a.eval x)) = (do
     let zero := (← zeroValue t).cells
     match ← underlying t with
     | .struct fields =>
       let places ← fields.mapM kF
       let some cells := Instr.fill (places[·]?) zero ((#[(i, y)] : Array (Nat × Operand)).map fun (i, x) => (i, a.eval x)).toList | stuck "build: no such field, or a part of the wrong size"
       pure (.agg cells)
     | .array _ elem =>
       let size ← sizeOf elem
       let some cells := Instr.fill (fun i => some (i * size, size)) zero ((#[(i, y)] : Array (Nat × Operand)).map fun (i, x) => (i, a.eval x)).toList | stuck "build: a part of the wrong size"
       pure (.agg cells)
     | _ => stuck "build: struct or array type expected") := rfl
 have hc : ¬ (i + 1 > l.length) := by omega
 have hf : Instr.fill (fun i => some (i * 1, 1)) l.toArray [(i, a.eval y)] = some (l.set i v).toArray := by
  simp only [Instr.fill, hF.eval hy, jI h1, Nat.mul_one]
  simp [hc]
 simp only [execOp, hb, Sem.run_bind, hz, dF hu, hs, Result.andThen_ok, Value.cells, Sem.run_pure, Array.toList_map, List.map_cons, List.map_nil]
 rw [hf]; rfl
end
theorem AT : aC Tryz.prog W0 210 [] R (fun v B => ∃ b, v = .pointer (some ⟨b, 0, none⟩) ∧ B = pt b (dh (List.replicate 16 0) 0) :: R) := by
 refine aF func210 ntmps210 rfl rfl ?_
 refine ae (ah (aa rfl (ai rfl) (ag (ab (ae (ah (aa rfl (bQ mI zeroValue252 (aE il (aE cB bP)) (bn rfl cB rfl rfl (Nat.le_of_ble_eq_true rfl) SetL.eq bO)) ?_)))))))
 refine aa rfl (bQ jD zeroValue254 (aE kw (aE dz bP)) (it rfl kw rfl rfl (Nat.le_of_ble_eq_true rfl) rfl bO)) ?_
 refine am rfl (bL rfl) ?_
 rintro _ _ ⟨b1, rfl, rfl⟩
 refine aa rfl (ai rfl) (ag (ab (av (au (.inl rfl) (.cons (ak rfl) .nil) ?_))))
 exact ⟨_, ⟨_, rfl, rfl⟩, ent_refl⟩
theorem uO (b : Nat) (rl : List Nat) (pc : Nat) (hl : rl.length = 16) : aC Tryz.prog W0 44 [.pointer (some ⟨b, 0, none⟩)] (pt b (dh rl pc) :: R) (fun v B => v = .agg (rl.map wV).toArray ∧ B = pt b (dh rl pc) :: R) := by
 refine aF func44 ntmps44 rfl rfl ?_
 refine ae (ah (am rfl (dd vZ) ?_))
 rintro _ _ ⟨b1, rfl, rfl⟩
 refine ag (ab (ae (ae (ah (aa rfl (ac rfl) (aa rfl (dl oH rfl rfl) (ag (ab ?_))))))))
 refine ax rfl ?_ ?_
 intro c1
 cases c1
 intro c1
 refine aB (ab (ae (ah (aa rfl (ac rfl) (aa rfl (aH rfl) ?_)))))
 refine aa rfl (ao rfl jD rfl kw rfl (by first | exact Nat.zero_add _ | rfl)) ?_
 refine aa rfl (ao rfl mI rfl il rfl (by first | exact Nat.zero_add _ | rfl)) ?_
 refine aa rfl (cQ w0 il rfl (fz (b := b) (AO hl) (by rw [List.length_map, hl])) (by rw [List.length_map, hl])) ?_
 refine bE (cK il rfl rfl (by rw [List.length_map, hl]) (uN rl) rfl) ?_
 rintro _ _ rfl
 refine ag (ab (av ?_))
 refine au (.inl rfl) (.cons (fj w0 il rfl (by rw [List.length_map, hl])) .nil) ?_
 exact ⟨_, ⟨rfl, rfl⟩, inferInstance⟩
theorem AU (b : Nat) (rl : List Nat) (pc : Nat) (hl : rl.length = 16) : aC Tryz.prog W0 106 [.pointer (some ⟨b, 0, none⟩)] (pt b (dh rl pc) :: R) (fun v B => v = wV pc ∧ B = pt b (dh rl pc) :: R) := by
 refine aF func106 ntmps106 rfl rfl ?_
 refine ae (ah (aa rfl (ai rfl) (ag (ab (ae (ae (ah (aa rfl (ac rfl) (aa rfl (dl oH rfl rfl) (ag (ab ?_)))))))))))
 refine ax rfl ?_ ?_
 intro c1
 cases c1
 intro c1
 refine aB (ab (ae (ah (aa rfl (ac rfl) (aa rfl (aH rfl) ?_)))))
 refine aa rfl (ao rfl jD rfl dz rfl (by first | exact Nat.zero_add _ | rfl)) ?_
 refine aa rfl (ap je rfl (aA (AP hl))) ?_
 refine aa rfl (ai rfl) (ag (ab (av (au (.inl rfl) (.cons (ak rfl) .nil) ?_))))
 exact ⟨_, ⟨rfl, rfl⟩, inferInstance⟩
theorem AV (b : Nat) (rl : List Nat) (pc q : Nat) (hl : rl.length = 16) : aC Tryz.prog W0 107 [.pointer (some ⟨b, 0, none⟩), wV q] (pt b (dh rl pc) :: R) (fun v B => v = .int .i64 0 ∧ B = pt b (dh rl q) :: R) := by
 refine aF func107 ntmps107 rfl rfl ?_
 refine ae (ah (aa rfl (ai rfl) (ag (ab (ae (ae (ah (aa rfl (ac rfl) (aa rfl (dl oH rfl rfl) (aa rfl (ac rfl) ?_))))))))))
 refine bA rfl rfl rfl ?_ ?_
 intro g1_3
 cases g1_3
 intro g1_3
 refine aa rfl (ac rfl) (ar rfl rfl (aa rfl (aH rfl) (ar rfl rfl ?_)))
 refine aa rfl (ao rfl jD rfl kw rfl (by first | exact Nat.zero_add _ | rfl)) ?_
 refine ar rfl rfl ?_
 refine aa rfl (ao rfl mI rfl cB rfl (by first | exact Nat.zero_add _ | rfl)) ?_
 refine ar rfl rfl (aa rfl (ap ib rfl (aA (uM hl))) ?_)
 refine ar rfl rfl (aa rfl (bN rfl) (aa rfl (aJ rfl rfl) (ag (ab ?_))))
 refine ax rfl ?_ ?_
 intro c1
 exact absurd c1 (by decide)
 intro c1
 refine aB (ab (ae (ah (aa rfl (ac rfl) (aa rfl (ac rfl) (aa rfl (aH rfl) ?_))))))
 refine aa rfl (ao rfl jD rfl dz rfl (by first | exact Nat.zero_add _ | rfl)) ?_
 refine bE (ce dz rfl rfl rfl (by rw [uL hl]; decide) (AQ hl)) ?_
 rintro _ _ rfl
 refine ag (ab (ae (ah (aa rfl (ai rfl) (ag (ab (av (au (.inl rfl) (.cons (ak rfl) .nil) ?_))))))))
 exact ⟨_, ⟨rfl, rfl⟩, inferInstance⟩
def js (i : Int) : Bool := decide (0 ≤ i ∧ i < 16)
theorem uP (b : Nat) (rl : List Nat) (pc : Nat) (hl : rl.length = 16) (i : Int) : aC Tryz.prog W0 217 [.pointer (some ⟨b, 0, none⟩), .int .i64 i] (pt b (dh rl pc) :: R) (fun v B => v = .int .i64 (if js i then 0 else 1) ∧ B = pt b (dh rl pc) :: R) := by
 refine aF func217 ntmps217 rfl rfl ?_
 refine ae (ah (aa rfl (ai rfl) (ag (ab (ae (b0 (ae (ah (aa rfl (ac rfl) (aa rfl (aH rfl) ?_))))))))))
 refine aa rfl (ao rfl mI rfl cB rfl (by first | exact Nat.zero_add _ | rfl)) ?_
 refine aa rfl (ap ib rfl (aA (uM hl))) ?_
 refine aa rfl (bN rfl) (aa rfl (ai rfl) (ag (ab ?_)))
 refine ax rfl ?_ ?_
 intro c1
 exact absurd c1 (by decide)
 intro c1
 refine ae (ae (ah (aa rfl (ac rfl) (aa rfl (aY rfl rfl) (aa rfl (ai rfl) (ag (ab ?_)))))))
 refine ax rfl ?_ ?_
 intro c3
 refine aB (ab (bR rfl (ae (ah (aa rfl (ai rfl) (ag (ab (av (bj (aD (au (.inl rfl) (.cons (ak rfl) .nil) ?_)))))))))))
 rw [if_neg (by simp only [js, decide_eq_true_eq]; omega)]
 exact ⟨_, ⟨rfl, rfl⟩, inferInstance⟩
 intro c3
 refine ah (aa rfl (ac rfl) (aa rfl (cF rfl rfl) (aa rfl (ai rfl) (ag (ab ?_)))))
 refine ax rfl ?_ ?_
 intro c4
 refine ae (ah (aa rfl (ai rfl) (ag (ab (av (bj (aD (au (.inl rfl) (.cons (ak rfl) .nil) ?_))))))))
 rw [if_neg (by simp only [js, decide_eq_true_eq]; omega)]
 exact ⟨_, ⟨rfl, rfl⟩, inferInstance⟩
 intro c4
 refine aB (bF (ab (ae (ah (aa rfl (ai rfl) (ag (ab (av (au (.inl rfl) (.cons (ak rfl) .nil) ?_)))))))))
 rw [if_pos (by simp only [js, decide_eq_true_eq]; omega)]
 exact ⟨_, ⟨rfl, rfl⟩, inferInstance⟩
theorem AW (b : Nat) (rl : List Nat) (pc i x : Nat) (hl : rl.length = 16) (hi : i < 16) (h0 : i ≠ 0) : aC Tryz.prog W0 218 [.pointer (some ⟨b, 0, none⟩), .int .i64 i, wV x] (pt b (dh rl pc) :: R) (fun v B => v = .tuple #[] ∧ B = pt b (dh (rl.set i x) pc) :: R) := by
 refine aF func218 ntmps218 rfl rfl ?_
 refine ae (ah (aa rfl (ac rfl) (aa rfl (co rfl rfl) (ag (ab ?_)))))
 refine ax rfl ?_ ?_
 intro c0
 refine ah (aa rfl (ac rfl) (aa rfl (ac rfl) (aa rfl (ac rfl) (aa rfl (aH rfl) ?_))))
 refine aa rfl (ao rfl mI rfl il rfl (by first | exact Nat.zero_add _ | rfl)) ?_
 refine aa rfl (fk oI dz rfl rfl rfl hi (by first | exact Nat.zero_add _ | rfl)) ?_
 refine bE (ce dz rfl rfl rfl (by rw [uL hl]; omega) (AR hl hi)) ?_
 rintro _ _ rfl
 refine ag (au (.inr rfl) .nil ?_)
 exact ⟨_, ⟨rfl, rfl⟩, inferInstance⟩
 intro c0
 simp at c0; omega
theorem qQ (b : Nat) (rl : List Nat) (pc i x : Nat) (hl : rl.length = 16) (hi : i < 16) (h0 : i ≠ 0) : aC Tryz.prog W0 98 [.pointer (some ⟨b, 0, none⟩), .int .i64 i, wV x] (pt b (dh rl pc) :: R) (fun v B => v = .int .i64 0 ∧ B = pt b (dh (rl.set i x) pc) :: R) := by
 have hir : js i = true := by simp only [js, decide_eq_true_eq]; omega
 refine aF func98 ntmps98 rfl rfl ?_
 refine ae (ah (aa rfl (ai rfl) (ag (ab (ae (ae (ah (aa rfl (ac rfl) (aa rfl (dl oH rfl rfl) (ag (ab ?_)))))))))))
 refine ax rfl ?_ ?_
 intro c1
 cases c1
 intro c1
 refine aB (ab (ae (ah (aa rfl (ac rfl) (aa rfl (aH rfl) ?_)))))
 refine aa rfl (ao rfl jD rfl kw rfl (by first | exact Nat.zero_add _ | rfl)) ?_
 refine aa rfl (ac rfl) (am rfl (bz call217 rfl (uP b rl pc hl i)) ?_)
 rintro _ B_ ⟨rfl, hB_⟩
 obtain rfl := hB_.symm
 refine aa rfl (ai rfl) (ag (ab (ae (ae (ah (aa rfl (ac rfl) (aa rfl (cz rfl rfl) (ag (ab ?_)))))))))
 refine ax rfl ?_ ?_
 intro c4
 refine ah (aa rfl (ac rfl) (aa rfl (aH rfl) ?_))
 refine aa rfl (ao rfl jD rfl kw rfl (by first | exact Nat.zero_add _ | rfl)) ?_
 refine aa rfl (ac rfl) (aa rfl (ac rfl) (am rfl (bz call218 rfl (AW b rl pc i x hl hi h0)) ?_))
 rintro _ B_ ⟨rfl, hB_⟩
 obtain rfl := hB_.symm
 refine ag (ab (ae (ah (aa rfl (ac rfl) (aa rfl (ai rfl) (ag (ab (av (au (.inl rfl) (.cons (ak rfl) .nil) ?_)))))))))
 rw [hir]
 exact ⟨_, ⟨rfl, rfl⟩, inferInstance⟩
 intro c4
 exact absurd (by rw [hir]; rfl) c4
abbrev uQ (id : Nat) : Obj := aw ([wV 0, wV 0, wV 0, wV 0, wV 0, wV 4, wV 0] ++ [.int .i64 id, .bool true]) 459
theorem AX : aC Tryz.prog W0 303 [] R (fun v B => v = .agg #[wV 0, wV 0, wV 0, wV 0, wV 0, wV 4, wV 0] ∧ B = R) := by
 refine aF func303 ntmps303 rfl rfl ?_
 refine ae (ah (am rfl (dd w3) ?_))
 rintro _ _ ⟨b1, rfl, rfl⟩
 refine ag (ab (ae (ah ?_)))
 refine aa rfl (AS w4 dz w3 rfl rfl (by decide)) ?_
 refine bE (cK kx rfl rfl rfl rfl rfl) ?_
 rintro _ _ rfl
 refine ag (ab (av (au (.inl rfl) (.cons (fj isAgg456 kx rfl rfl) .nil) ?_)))
 exact ⟨_, ⟨rfl, rfl⟩, inferInstance⟩
theorem AY (i : Nat) (hi : i < 4) : aC Tryz.prog W0 208 [.int .i64 i] R (fun v B => ∃ b, v = .tuple #[.pointer (some ⟨b, 0, none⟩), .int .i64 0] ∧ B = pt b (uQ i) :: R) := by
 refine aF func208 ntmps208 rfl rfl ?_
 refine ae (ah (aa rfl (ai rfl) (aa rfl (ai rfl) (ag (ab (ae (ae (ah (aa rfl (ac rfl) (aa rfl (aY rfl rfl) (aa rfl (ac rfl) ?_)))))))))))
 refine bA rfl rfl rfl ?_ ?_
 intro g1_3
 omega
 intro g1_3
 refine aa rfl (ac rfl) (ar rfl rfl (aa rfl (cF rfl rfl) (aa rfl (aJ rfl rfl) (ag (ab ?_)))))
 refine ax rfl ?_ ?_
 intro c1
 omega
 intro c1
 refine aB (ab (ae (ah (am rfl (aS call303 rfl (AX)) ?_))))
 rintro _ B_ ⟨rfl, hB_⟩
 obtain rfl := hB_.symm
 refine aa rfl (ac rfl) (aa rfl (bQ underlying459 zeroValue459 (aE kx (aE az (aE cB bP))) (it rfl kx rfl rfl (Nat.le_of_ble_eq_true rfl) SetRL.eq (bn rfl az rfl rfl (Nat.le_of_ble_eq_true rfl) SetL.eq (bn rfl cB rfl rfl (Nat.le_of_ble_eq_true rfl) SetL.eq bO)))) ?_)
 refine am rfl (bL rfl) ?_
 rintro _ _ ⟨b1, rfl, rfl⟩
 refine aa rfl (ai rfl) (aa rfl (ai rfl) (ag (ab (av (au (.inl rfl) (.cons (ak rfl) (.cons (ak rfl) .nil)) ?_)))))
 exact ⟨_, ⟨_, rfl, rfl⟩, ent_refl⟩
abbrev ml : Obj := aw ([.bool false, .bool false, .int .i64 0, .int .i64 0, .bool false, .bool false, .int .i64 0, .int .i64 0, .bool false, .bool false, .int .i64 0, .int .i64 0, .bool false, .bool false, .int .i64 0, .int .i64 0, .bool false, .bool false, .int .i64 0, .int .i64 0, .bool false, .bool false, .int .i64 0, .int .i64 0, .bool false, .bool false, .int .i64 0, .int .i64 0, .bool false, .bool false, .int .i64 0, .int .i64 0, .slice none 0 0, .int .i64 0, .bool false].set 34 (.bool true)) 285
theorem AZ : aC Tryz.prog W0 211 [] R (fun v B => ∃ b, v = .pointer (some ⟨b, 0, none⟩) ∧ B = pt b ml :: R) := by
 refine aF func211 ntmps211 rfl rfl ?_
 refine ae (ah (aa rfl (ai rfl) (ag (ab (ae (ah (aa rfl (bQ underlying285 zeroValue285 (aE sizeOf280 (aE sizeOf283 (aE az (aE cB bP)))) (bn rfl cB rfl rfl (Nat.le_of_ble_eq_true rfl) SetL.eq bO)) ?_)))))))
 refine am rfl (bL rfl) ?_
 rintro _ _ ⟨b1, rfl, rfl⟩
 refine aa rfl (ai rfl) (ag (ab (av (au (.inl rfl) (.cons (ak rfl) .nil) ?_))))
 exact ⟨_, ⟨_, rfl, rfl⟩, ent_refl⟩
abbrev uR : Obj := aw [eG, .bool false, .bool false, .bool false, .bool false, .int .i64 0, .bool true] 468
theorem B1 : aC Tryz.prog W0 212 [] R (fun v B => ∃ b, v = .pointer (some ⟨b, 0, none⟩) ∧ B = pt b uR :: R) := by
 refine aF func212 ntmps212 rfl rfl ?_
 refine ae (ah (aa rfl (ai rfl) (ag (ab (ae (ah (aa rfl (bQ underlying468 zeroValue468 (aE sizeOf465 (aE sizeOf466 (aE az (aE cB bP)))) (bn rfl cB rfl rfl (Nat.le_of_ble_eq_true rfl) SetL.eq bO)) ?_)))))))
 refine am rfl (bL rfl) ?_
 rintro _ _ ⟨b1, rfl, rfl⟩
 refine aa rfl (ai rfl) (ag (ab (av (au (.inl rfl) (.cons (ak rfl) .nil) ?_))))
 exact ⟨_, ⟨_, rfl, rfl⟩, ent_refl⟩
abbrev uS : Obj := aw [eG, .bool true] 377
theorem B2 : aC Tryz.prog W0 92 [] R (fun v B => ∃ b, v = .pointer (some ⟨b, 0, none⟩) ∧ B = pt b uS :: R) := by
 refine aF func92 ntmps92 rfl rfl ?_
 refine ae (ah (aa rfl (ai rfl) (ag (ab (ae (ah (aa rfl (bQ underlying377 zeroValue377 (aE lp (aE cB bP)) (bn rfl cB rfl rfl (Nat.le_of_ble_eq_true rfl) SetL.eq bO)) ?_)))))))
 refine am rfl (bL rfl) ?_
 rintro _ _ ⟨b1, rfl, rfl⟩
 refine aa rfl (ai rfl) (ag (ab (av (au (.inl rfl) (.cons (ak rfl) .nil) ?_))))
 exact ⟨_, ⟨_, rfl, rfl⟩, ent_refl⟩
structure Evt where
  k : Int
  clock : Int
  code : Nat
  val : Nat
  pc : Nat
  rl : List Nat
@[reducible] def iD (e : Evt) : List Value := [.int .i64 e.k, .int .i64 e.clock, wV e.code, wV e.val, wV e.pc] ++ (List.range 16).map fun i => wV (e.rl.getD i 0)
theorem B3 (e : Evt) : (iD e).length = 21 := by simp [iD]
theorem B4 {e : Evt} (h : e.rl.length = 16) : iD e = [.int .i64 e.k, .int .i64 e.clock, wV e.code, wV e.val, wV e.pc] ++ e.rl.map wV := by
 unfold iD; congr 1
 apply List.ext_getElem
 simp [h]
 intro i h1 h2
 have : i < e.rl.length := by simpa using h2
 simp [List.getD, this]
def dU (b : Nat) (es : List Evt) : HP := chk (fun C => ∃ a c, C = [pt b (aw [.slice a es.length c, .bool true] 184), osl 407 21 (.slice a es.length c) (es.flatMap iD)])
section
variable {P : Program} {W0 : World} {N : FSz} {K : Act → World → Prop} {e : bK} {A B R R1 R2 : List HP} {b n : Nat} {es : List Evt} {f : FuncId} {args : List Value} {Post : Value → List HP → Prop}
theorem qR [hk : Tk dU b A es R] (h : ∀ a c, aQ W0 N K e (pt b (aw [.slice a es.length c, .bool true] 184) :: osl 407 21 (.slice a es.length c) (es.flatMap iD) :: R)) : aQ W0 N K e A :=
  dP (r := dU) (b := b) (iM fun C hC => by obtain ⟨a, c, rfl⟩ := hC; exact h a c)
theorem nX {a : Option Addr} {c : Nat} {xs : List Value} [h1 : Tk pt b A (aw [.slice a n c, .bool true] 184) R1] [h2 : Tk (osl 407 21) (.slice a n c) R1 xs R2] (hn : n = es.length) (hx : xs = es.flatMap iD) [k : Ent R2 B] : Ent A (dU b es :: B) := by
 subst hn; subst hx
 exact (Ent.ofPerm (h1.perm.trans (h2.perm.cons _))).trans ((Ent.cons (Ent.cons k)).trans (eE (R := B) (C := [_, _]) ⟨a, c, rfl⟩))
end
theorem B5 : aC Tryz.prog W0 93 [] R (fun v B => ∃ b, v = .pointer (some ⟨b, 0, none⟩) ∧ B = dU b [] :: R) := by
 refine aF func93 ntmps93 rfl rfl ?_
 refine ae (ah (aa rfl (ai rfl) (ag (ab (ae (ah (aa rfl (bQ lz zeroValue184 (aE jE (aE cB bP)) (bn rfl cB rfl rfl (Nat.le_of_ble_eq_true rfl) SetL.eq bO)) ?_)))))))
 refine am rfl (bL rfl) ?_
 rintro _ _ ⟨b1, rfl, rfl⟩
 refine aa rfl (ai rfl) (ag (ab (av (au (.inl rfl) (.cons (ak rfl) .nil) ?_))))
 exact ⟨_, ⟨_, rfl, rfl⟩, (Ent.cons (fb (E := 407) (sz := 21) (A := R) (B := R))).trans (eE (R := R) (C := [_, _]) ⟨none, 0, rfl⟩)⟩
theorem uT (b : Nat) (es : List Evt) : aC Tryz.prog W0 74 [.pointer (some ⟨b, 0, none⟩)] (dU b es :: R) (fun v B => v = .bool false ∧ B = dU b es :: R) := by
 refine aF func74 ntmps74 rfl rfl ?_
 refine ae (ah (aa rfl (ai rfl) (ag (ab (ae ?_)))))
 refine qR (b := b) fun a c => ?_
 refine ah (aa rfl (ac rfl) (aa rfl (dl underlying94 rfl rfl) (aa rfl (ac rfl) ?_)))
 refine bA rfl rfl rfl ?_ ?_
 intro g1_3
 cases g1_3
 intro g1_3
 refine aa rfl (ac rfl) (ar rfl rfl (aa rfl (aH rfl) (ar rfl rfl ?_)))
 refine aa rfl (ao rfl lz rfl cB rfl (by first | exact Nat.zero_add _ | rfl)) ?_
 refine ar rfl rfl (aa rfl (ap ib rfl (aA rfl)) ?_)
 refine ar rfl rfl (aa rfl (bN rfl) (aa rfl (aJ rfl rfl) (aa rfl (ai rfl) (ag (ab (av (au (.inl rfl) (.cons (ak rfl) .nil) ?_)))))))
 exact ⟨_, ⟨rfl, rfl⟩, nX rfl rfl⟩
theorem B6 (b : Nat) (es : List Evt) : aC Tryz.prog W0 31 [.pointer (some ⟨b, 0, none⟩)] (dU b es :: R) (fun v B => v = .int .i64 (es.length : Nat) ∧ B = dU b es :: R) := by
 refine aF func31 ntmps31 rfl rfl ?_
 refine ae (ah (aa rfl (ai rfl) (ag (ab (ae (ae (ah (aa rfl (ac rfl) (am rfl (bz call74 rfl (uT b es)) ?_)))))))))
 rintro _ B_ ⟨rfl, hB_⟩
 obtain rfl := hB_.symm
 refine ag (ab ?_)
 refine ax rfl ?_ ?_
 intro c1
 exact absurd c1 (by decide)
 intro c1
 refine aB (ab (ae ?_))
 refine qR (b := b) fun a c => ?_
 refine ah (aa rfl (ac rfl) (aa rfl (aH rfl) ?_))
 refine aa rfl (ao rfl lz rfl jE rfl (by first | exact Nat.zero_add _ | rfl)) ?_
 refine aa rfl (ap rK rfl (aA rfl)) ?_
 refine aa rfl (bq mJ rfl) (aa rfl (ai rfl) (ag (ab (av (au (.inl rfl) (.cons (ak rfl) .nil) ?_)))))
 exact ⟨_, ⟨rfl, rfl⟩, nX rfl rfl⟩
theorem B7 (W0 : World) (R : List HP) (b : Nat) (es : List Evt) (x : Evt) (hn : es.length < 4096) : aC Tryz.prog W0 241 [.pointer (some ⟨b, 0, none⟩), .agg (iD x).toArray] (dU b es :: R) (fun v B => v = .int .i64 0 ∧ B = dU b (es ++ [x]) :: R) := by
 have he : es.flatMap iD ++ [iD x].flatten = (es ++ [x]).flatMap iD := by simp
 refine aF func241 ntmps241 rfl rfl ?_
 refine ae (ah (am rfl (bL rfl) ?_))
 rintro _ _ ⟨b3, rfl, rfl⟩
 refine aa rfl (ai rfl) (ag (ab (ae (b0 (ae (ah (aa rfl (ac rfl) (am rfl (bz call74 rfl (uT b es)) ?_))))))))
 rintro _ B_ ⟨rfl, hB_⟩
 obtain rfl := hB_.symm
 refine aa rfl (ai rfl) (ag (ab ?_))
 refine ax rfl ?_ ?_
 intro c1
 exact absurd c1 (by decide)
 intro c1
 refine ae ?_
 refine qR (b := b) fun a c => ?_
 refine ah (aa rfl (ac rfl) (aa rfl (aH rfl) ?_))
 refine aa rfl (ao rfl lz rfl jE rfl (by first | exact Nat.zero_add _ | rfl)) ?_
 refine aa rfl (ap rK rfl (aA rfl)) ?_
 refine aa rfl (bq mJ rfl) (aa rfl (cF rfl rfl) (aa rfl (ai rfl) (ag (ab ?_))))
 refine ax rfl ?_ ?_
 intro c3
 omega
 intro c3
 refine aB (bF (ab (ae ?_)))
 refine cY [(b3, 0, _)] 11 cV rfl (aV aK) (fun hS => ?_)
 refine aj 0 rfl rfl (by kernel_rfl) (by kernel_rfl) (by kernel_rfl) rfl hS (ac rfl) ?_
 refine aj 1 rfl rfl (by kernel_rfl) (by kernel_rfl) (by kernel_rfl) rfl hS (ac rfl) ?_
 refine aj 2 rfl rfl (by kernel_rfl) (by kernel_rfl) (by kernel_rfl) rfl hS (aH rfl) ?_
 refine aj 3 rfl rfl (by kernel_rfl) (by kernel_rfl) (by kernel_rfl) rfl hS (ao rfl lz rfl jE rfl (by first | exact Nat.zero_add _ | rfl)) ?_
 refine aj 5 rfl rfl (by kernel_rfl) (by kernel_rfl) (by kernel_rfl) rfl hS (cQ isAgg407 w5 rfl (dA (k := 0) rfl) (B3 x)) ?_
 refine iL (is := [4, 6]) (by kernel_rfl) rfl ⟨?_, ?_, trivial⟩
 skip
 refine f8 rfl rfl (eD (ap rK rfl (aA rfl))) rfl ?_; clear hS
 rintro _ _ ⟨rfl, rfl⟩
 refine ⟨(aV aK), fun hS => ?_⟩
 refine bB 6 (by kernel_rfl) rfl rfl (fN mJ w5 w6 rfl (eM rfl rfl fM) rfl (by decide) (by decide) (by decide)) rfl ?_; clear hS
 rintro _ _ ⟨b2, rfl, rfl⟩
 refine ⟨(aV aK), fun hS => ?_⟩
 refine bB 7 (by kernel_rfl) rfl rfl (dL (sz := 21) (by_ := 96) (info := Tryz.t407) mJ (by kernel_rfl) rfl rfl rfl rfl (by decide) rfl rfl dM rfl rfl (by simp only [maxLen]; omega) (by omega)) rfl ?_; clear hS
 rintro _ _ ⟨a3, c3, rfl, rfl⟩
 refine ⟨(aV aK), fun hS => ?_⟩
 refine aj 8 rfl rfl (by kernel_rfl) (by kernel_rfl) (by kernel_rfl) rfl hS (aH rfl) ?_
 refine aj 9 rfl rfl (by kernel_rfl) (by kernel_rfl) (by kernel_rfl) rfl hS (ao rfl lz rfl jE rfl (by first | exact Nat.zero_add _ | rfl)) ?_
 refine bB 10 (by kernel_rfl) rfl rfl (ce jE rfl rfl rfl (Nat.le_of_ble_eq_true rfl) SetL.eq) rfl ?_; clear hS
 rintro _ _ rfl
 refine ⟨(aV aK), fun hS => ?_⟩
 refine cg (by kernel_rfl) ?_; clear hS
 refine ab (ae (ah (aa rfl (ai rfl) (ag (ab (av (au (.inl rfl) (.cons (ak rfl) .nil) ?_)))))))
 exact ⟨_, ⟨rfl, rfl⟩, nX (es := es ++ [x]) (by simp) he⟩
 skip
 refine f8 rfl rfl (fN mJ w5 w6 rfl (eM rfl rfl fM) rfl (by decide) (by decide) (by decide)) rfl ?_; clear hS
 rintro _ _ ⟨b2, rfl, rfl⟩
 refine ⟨(aV aK), fun hS => ?_⟩
 refine bB 4 (by kernel_rfl) rfl rfl (eD (ap rK rfl (aA rfl))) rfl ?_; clear hS
 rintro _ _ ⟨rfl, rfl⟩
 refine ⟨(aV aK), fun hS => ?_⟩
 refine bB 7 (by kernel_rfl) rfl rfl (dL (sz := 21) (by_ := 96) (info := Tryz.t407) mJ (by kernel_rfl) rfl rfl rfl rfl (by decide) rfl rfl dM rfl rfl (by simp only [maxLen]; omega) (by omega)) rfl ?_; clear hS
 rintro _ _ ⟨a3, c3, rfl, rfl⟩
 refine ⟨(aV aK), fun hS => ?_⟩
 refine aj 8 rfl rfl (by kernel_rfl) (by kernel_rfl) (by kernel_rfl) rfl hS (aH rfl) ?_
 refine aj 9 rfl rfl (by kernel_rfl) (by kernel_rfl) (by kernel_rfl) rfl hS (ao rfl lz rfl jE rfl (by first | exact Nat.zero_add _ | rfl)) ?_
 refine bB 10 (by kernel_rfl) rfl rfl (ce jE rfl rfl rfl (Nat.le_of_ble_eq_true rfl) SetL.eq) rfl ?_; clear hS
 rintro _ _ rfl
 refine ⟨(aV aK), fun hS => ?_⟩
 refine cg (by kernel_rfl) ?_; clear hS
 refine ab (ae (ah (aa rfl (ai rfl) (ag (ab (av (au (.inl rfl) (.cons (ak rfl) .nil) ?_)))))))
 exact ⟨_, ⟨rfl, rfl⟩, nX (es := es ++ [x]) (by simp) he⟩
abbrev jt (cats who quota : Int) : Obj := aw [eG, .int .i64 0, .int .i64 0, .int .i64 0, .int .i64 cats, .int .i64 who, .int .i64 quota, .bool true] 129
theorem B8 (cats who quota : Int) (h1 : 0 ≤ cats ∧ cats ≤ 8) (h2 : -1 ≤ who ∧ who < 4) (h3 : 0 ≤ quota ∧ quota ≤ 64) : aC Tryz.prog W0 51 [.int .i64 cats, .int .i64 who, .int .i64 quota] R (fun v B => ∃ b, v = .tuple #[.pointer (some ⟨b, 0, none⟩), .int .i64 0] ∧ B = pt b (jt cats who quota) :: R) := by
 refine aF func51 ntmps51 rfl rfl ?_
 refine ae (ah (aa rfl (ai rfl) (aa rfl (ai rfl) (ag (ab (ae (b0 (ae (b0 (b0 (b0 (ae (ae (ae (ae (ah (aa rfl (ac rfl) (aa rfl (aY rfl rfl) (aa rfl (ai rfl) (ag (ab ?_)))))))))))))))))))))
 refine ax rfl ?_ ?_
 intro c1
 omega
 intro c1
 refine ah (aa rfl (ac rfl) (aa rfl (cd rfl rfl) (aa rfl (ai rfl) (ag (ab ?_)))))
 refine ax rfl ?_ ?_
 intro c2
 omega
 intro c2
 refine aB (ab (ae (ae (ae (ah (aa rfl (ac rfl) (aa rfl (aY rfl rfl) (aa rfl (ai rfl) (ag (ab ?_))))))))))
 refine ax rfl ?_ ?_
 intro c3
 omega
 intro c3
 refine ah (aa rfl (ac rfl) (aa rfl (cF rfl rfl) (aa rfl (ai rfl) (ag (ab ?_)))))
 refine ax rfl ?_ ?_
 intro c4
 omega
 intro c4
 refine aB (ab (ae (ae (ah (aa rfl (ac rfl) (aa rfl (aY rfl rfl) (aa rfl (ai rfl) (ag (ab ?_)))))))))
 refine ax rfl ?_ ?_
 intro c5
 omega
 intro c5
 refine ah (aa rfl (ac rfl) (aa rfl (cd rfl rfl) (aa rfl (ai rfl) (ag (ab ?_)))))
 refine ax rfl ?_ ?_
 intro c6
 omega
 intro c6
 refine aB (ab (bX (eK rfl (eK rfl (eK rfl (bi (bZ (ab (ae (ah (aa rfl (ac rfl) (aa rfl (ac rfl) (aa rfl (ac rfl) (aa rfl (bQ underlying129 zeroValue129 (aE sizeOf127 (aE az (aE az (aE az (aE cB bP))))) (bn rfl az rfl rfl (Nat.le_of_ble_eq_true rfl) SetL.eq (bn rfl az rfl rfl (Nat.le_of_ble_eq_true rfl) SetL.eq (bn rfl az rfl rfl (Nat.le_of_ble_eq_true rfl) SetL.eq (bn rfl cB rfl rfl (Nat.le_of_ble_eq_true rfl) SetL.eq bO))))) ?_))))))))))))))
 refine am rfl (bL rfl) ?_
 rintro _ _ ⟨b1, rfl, rfl⟩
 refine aa rfl (ai rfl) (aa rfl (ai rfl) (ag (ab (av (au (.inl rfl) (.cons (ak rfl) (.cons (ak rfl) .nil)) ?_)))))
 exact ⟨_, ⟨_, rfl, rfl⟩, ent_refl⟩
end
section
structure It where
  kr : Int
  kp : Int
  ep : Int
  ef : Int
  er : Int
  u : Int
deriving DecidableEq
instance : Inhabited It := ⟨⟨0, 0, 0, 0, 0, 0⟩⟩
def It.key (x : It) : Int × Int := (x.kr, x.kp)
def It.ent (x : It) : Int × Int × Int := (x.ep, x.ef, x.er)
def ee (x : It) : List Value := [.int .i64 x.kr, .int .i64 x.kp, .int .i64 x.ep, .int .i64 x.ef, .int .i64 x.er, .int .i64 x.u]
theorem ju (x : It) : (ee x).length = 6 := rfl
def us (l : List It) (i : Nat) : Int := (l.getD i default).u
theorem pu {l : List It} {i : Nat} (h : i < l.length) : us l i = l[i].u := by simp [us, List.getD, h]
def swapL (l : List It) (i j : Nat) : List It := (l.set i (l.getD j default)).set j (l.getD i default)
theorem pw (l : List It) (i j : Nat) : (swapL l i j).length = l.length := by simp [swapL]
theorem jR {l : List It} {i j : Nat} (hi : i < l.length) (hj : j < l.length) (x : Nat) : (swapL l i j).getD x default = if x = i then l.getD j default else if x = j then l.getD i default else l.getD x default := by
 simp only [swapL, List.getD_eq_getElem?_getD, List.getElem?_set, List.length_set]
 by_cases h1 : x = j
 subst h1
 by_cases h2 : x = i
 subst h2; simp [hj]
 simp [hj, h2]
 have h1' : ¬ j = x := fun h => h1 h.symm
 by_cases h2 : x = i
 subst h2; simp [h1', hi]
 have h2' : ¬ i = x := fun h => h2 h.symm
 simp [h1, h1', h2, h2']
theorem j5 {l : List It} {i j : Nat} (hi : i < l.length) (hj : j < l.length) (x : Nat) : us (swapL l i j) x = if x = i then us l j else if x = j then us l i else us l x := by
 unfold us; rw [jR hi hj]; split
 rfl
 split <;> rfl
theorem px {α : Type} : ∀ (l : List α) (i j : Nat) (hi : i < l.length) (hj : j < l.length), ((l.set i l[j]).set j l[i]).Perm l := by
 intro l i j hi hj
 have : ((l.set i l[j]).set j l[i]).Perm l := List.set_set_perm hi hj
 exact this
theorem jS {l : List It} {i j : Nat} (hi : i < l.length) (hj : j < l.length) : (swapL l i j).Perm l := by
 have := px l i j hi hj
 simpa [swapL, List.getD, hi, hj] using this
def Heap (l : List It) (n : Nat) : Prop := ∀ c, c < n → 0 < c → us l ((c - 1) / 2) ≤ us l c
def gj (l : List It) (i n : Nat) : Prop := ∀ c, c < n → 0 < c → (c ≠ i → (c - 1) / 2 ≠ i → us l ((c - 1) / 2) ≤ us l c) ∧ ((c - 1) / 2 = i → 0 < i → us l ((i - 1) / 2) ≤ us l c)
def Up (l : List It) (j n : Nat) : Prop := ∀ c, c < n → 0 < c → (c ≠ j → us l ((c - 1) / 2) ≤ us l c) ∧ ((c - 1) / 2 = j → 0 < j → us l ((j - 1) / 2) ≤ us l c)
theorem py {l : List It} {i j n : Nat} (h : gj l i n) (hn : n ≤ l.length) (hj : j < n) (hc : (j - 1) / 2 = i) (h0 : 0 < j) (hlt : us l j < us l i)
    (hmin : ∀ c, c < n → 0 < c → (c - 1) / 2 = i → us l j ≤ us l c) : gj (swapL l i j) j n ∧ us (swapL l i j) ((j - 1) / 2) ≤ us (swapL l i j) j := by
 have hij : i < j := by omega
 have sw := j5 (l := l) (i := i) (j := j) (by omega) (by omega)
 refine ⟨fun c hcn hc0 => ⟨fun h1 h2 => ?_, fun h1 h2 => ?_⟩, ?_⟩
 rw [sw, sw]
 by_cases e1 : c = i
 subst e1
 have := (h j hj h0).2 hc (by omega)
 rw [if_neg (by omega), if_neg (by omega), if_pos rfl]; exact this
 by_cases e2 : (c - 1) / 2 = i
 rw [if_pos e2, if_neg e1, if_neg h1]; exact hmin c hcn hc0 e2
 rw [if_neg e2, if_neg h2, if_neg e1, if_neg h1]; exact (h c hcn hc0).1 e1 e2
 rw [hc, sw, sw, if_pos rfl, if_neg (by omega), if_neg (by omega)]
 rw [← h1]; exact (h c hcn hc0).1 (by omega) (by omega)
 rw [hc, sw, sw, if_pos rfl, if_neg (by omega), if_pos rfl]; omega
theorem lZ {l : List It} {i n : Nat} (h : gj l i n) (hmin : ∀ c, c < n → 0 < c → (c - 1) / 2 = i → us l i ≤ us l c) (hp : 0 < i → us l ((i - 1) / 2) ≤ us l i) : Heap l n := fun c hc h0 => by
 by_cases e1 : (c - 1) / 2 = i
 rw [e1]; exact hmin c hc h0 e1
 by_cases e2 : c = i
 subst e2; exact hp h0
 exact (h c hc h0).1 e2 e1
theorem pz {l : List It} {j n : Nat} (h : Up l j n) (hn : n ≤ l.length) (hj : j < n) (h0 : 0 < j) (hlt : us l j < us l ((j - 1) / 2)) : Up (swapL l ((j - 1) / 2) j) ((j - 1) / 2) n := by
 have sw := j5 (l := l) (i := (j - 1) / 2) (j := j) (by omega) (by omega)
 intro c hc hc0
 refine ⟨fun h1 => ?_, fun h1 h2 => ?_⟩
 rw [sw, sw]
 by_cases e1 : c = j
 subst e1; rw [if_pos rfl, if_neg (by omega), if_pos rfl]; omega
 by_cases e2 : (c - 1) / 2 = (j - 1) / 2
 rw [if_pos e2, if_neg (by omega), if_neg e1]
 have := (h c hc hc0).1 e1; rw [e2] at this; omega
 by_cases e3 : (c - 1) / 2 = j
 rw [if_neg e2, if_pos e3, if_neg h1, if_neg e1]; exact (h c hc hc0).2 e3 h0
 rw [if_neg e2, if_neg e3, if_neg h1, if_neg e1]; exact (h c hc hc0).1 e1
 rw [sw, sw, if_neg (by omega), if_neg (by omega)]
 have hp := (h ((j - 1) / 2) (by omega) h2).1 (by omega)
 by_cases e1 : c = j
 subst e1; rw [if_neg (by omega), if_pos rfl]; exact hp
 rw [if_neg (by omega), if_neg e1]
 have := (h c hc hc0).1 e1; rw [h1] at this; omega
theorem m0 {l : List It} {j n : Nat} (h : Up l j n) (hp : 0 < j → us l ((j - 1) / 2) ≤ us l j) : Heap l n := fun c hc h0 => by
 by_cases e : c = j
 subst e; exact hp h0
 exact (h c hc h0).1 e
theorem pA {l : List It} {n : Nat} (h : Heap l n) : ∀ c, c < n → us l 0 ≤ us l c := by
 intro c
 induction c using Nat.strongRecOn with
 | _ c ih =>
  intro hc
  by_cases h0 : c = 0
  subst h0; omega
  have := h c hc (by omega)
  have := ih ((c - 1) / 2) (by omega) (by omega)
  omega
theorem m3 {l l' : List It} {n : Nat} (h : ∀ i, i < n → l.getD i default = l'.getD i default) {i : Nat} (hi : i < n) : us l i = us l' i := by unfold us; rw [h i hi]
theorem pB {l l' : List It} {n : Nat} (h : ∀ i, i < n → l.getD i default = l'.getD i default) (k : Heap l n) : Heap l' n := fun c hc h0 => by
 rw [← m3 h hc, ← m3 h (i := (c - 1) / 2) (by omega)]; exact k c hc h0
structure Down (its l : List It) (i0 n : Nat) (moved : Bool) : Prop where
  perm : l.Perm its
  tail : ∀ x, n ≤ x → l.getD x default = its.getD x default
  no : moved = false → l = its ∧ ∀ c, c < n → 0 < c → (c - 1) / 2 = i0 → us its i0 ≤ us its c
  yes : moved = true → Heap l n
theorem m4 {l its : List It} {i i0 n : Nat} (hp : l.Perm its) (hi : i0 ≤ i) (hH : gj l i n) (ht : ∀ x, n ≤ x → l.getD x default = its.getD x default) (h0 : i = i0 → l = its)
    (hg : i0 < i → us l ((i - 1) / 2) ≤ us l i) (hmin : ∀ c, c < n → 0 < c → (c - 1) / 2 = i → us l i ≤ us l c) : Down its l i0 n (decide (i0 < i)) :=
  ⟨hp, ht, fun h => by
 have : i = i0 := by simp at h; omega
 subst this
 obtain rfl := h0 rfl
 exact ⟨rfl, hmin⟩, fun h => by
 have : i0 < i := by simpa using h
 exact lZ hH hmin fun _ => hg this⟩
end
section
open Go.RowKit
def e7 (b : Nat) (x : List It × List Value) : HP := chk (fun C => ∃ a c, C = [pt b (aw (.slice a x.1.length c :: x.2) 525), osl 518 6 (.slice a x.1.length c) (x.1.flatMap ee)])
section
variable {P : Program} {W0 : World} {R A : List HP} {b : Nat} {its : List It} {tl : List Value} {f : FuncId} {args : List Value} {Post : Value → List HP → Prop}
theorem qS (h : ∀ a c, aC P W0 f args (pt b (aw (.slice a its.length c :: tl) 525) :: osl 518 6 (.slice a its.length c) (its.flatMap ee) :: R) Post) : aC P W0 f args (e7 b (its, tl) :: R) Post :=
  ng fun C hC => by obtain ⟨a, c, rfl⟩ := hC; exact h a c
theorem qT {a : Option Addr} {c n : Nat} {R1 R2 B : List HP} [h1 : Tk pt b A (aw (.slice a n c :: tl) 525) R1] [h2 : Tk (osl 518 6) (.slice a n c) R1 (its.flatMap ee) R2] (hn : n = its.length) [k : Ent R2 B] : Ent A (e7 b (its, tl) :: B) := by
 subst hn
 exact (Ent.ofPerm (h1.perm.trans (h2.perm.cons _))).trans ((Ent.cons (Ent.cons k)).trans (eE (R := B) (C := [_, _]) ⟨a, c, rfl⟩))
theorem qU (h0 : its ≠ []) (h : ∀ g c sp, its.length ≤ c → c ≤ maxLen → (its.flatMap ee ++ sp).length = c * 6 → aC P W0 f args (pt b (aw (.slice (some ⟨g, 0, none⟩) its.length c :: tl) 525) :: pt g (aw (its.flatMap ee ++ sp) 518) :: R) Post) : aC P W0 f args (e7 b (its, tl) :: R) Post :=
  qS fun a c => lR (List.Perm.swap _ _ _) (sq (fun h1 h2 => by
      have := dm ju its
      rw [h2] at this
      exact absurd (List.eq_nil_of_length_eq_zero (by simp at this; omega)) h0)
    (fun g n cap sp h1 h2 h3 h4 h5 => by
      cases h1
      exact lR (List.Perm.swap _ _ _) (h g _ sp h2 h3 h5)))
theorem nY {g c n : Nat} {xs sp : List Value} {R1 R2 B : List HP} [h1 : Tk pt b A (aw (.slice (some ⟨g, 0, none⟩) n c :: tl) 525) R1] [h2 : Tk pt g R1 (aw (xs ++ sp) 518) R2] (hx : xs = its.flatMap ee) (hn : n = its.length) (hc : n ≤ c) (hm : c ≤ maxLen) (hl : (xs ++ sp).length = c * 6) [k : Ent R2 B] : Ent A (e7 b (its, tl) :: B) := by
 subst hn
 subst hx
 have e : Ent R1 (osl 518 6 (.slice (some ⟨g, 0, none⟩) its.length c) (its.flatMap ee) :: B) := eP hc hm (dm ju its) hl
 exact (Ent.ofPerm h1.perm).trans ((Ent.cons e).trans (eE (R := B) (C := [_, _]) ⟨_, c, rfl⟩))
end
theorem uU (its : List It) (sp : List Value) (i j : Nat) (hi : i < its.length) (hj : j < 6) : (its.flatMap ee ++ sp)[i * 6 + j]? = (ee (its.getD i default))[j]? := by
 rw [iY ju its i j sp hi hj]; simp [List.getD, hi]
theorem mm (its : List It) (sp : List Value) (i : Nat) (hi : i < its.length) : ((its.flatMap ee ++ sp).drop (i * 6)).take 6 = ee (its.getD i default) := by
 rw [lO ju its i sp hi]; simp [List.getD, hi]
theorem nZ (its : List It) (sp : List Value) (i : Nat) (x : It) (hi : i < its.length) : setR (its.flatMap ee ++ sp) (i * 6) (ee x) = (its.set i x).flatMap ee ++ sp := nf ju its i x sp hi
theorem o8 (its : List It) (sp : List Value) (i : Nat) (hi : i < its.length) : i * 6 + 6 ≤ (its.flatMap ee ++ sp).length := by
 rw [List.length_append, dm ju]; omega
theorem uV {its : List It} {i : Nat} (h : i < its.length) : its ≠ [] := fun e => by rw [e] at h; simp at h
theorem uW (W0 : World) (R : List HP) (b : Nat) (its : List It) (tl : List Value) :
    aC Tryz.prog W0 492 [.pointer (some ⟨b, 0, none⟩)] (e7 b (its, tl) :: R) (fun v B => v = .int .i64 (its.length : Nat) ∧ B = e7 b (its, tl) :: R) := by
 refine qS fun a c => ?_
 refine aF func492 ntmps492 rfl rfl ?_
 refine ae (ah (aa rfl (ai rfl) (ag (ab (ae (ah (aa rfl (ac rfl) (aa rfl (aH rfl) ?_))))))))
 refine aa rfl (ao rfl gY rfl g7 rfl (by first | exact Nat.zero_add _ | rfl)) ?_
 refine aa rfl (ap iH rfl (aA rfl)) ?_
 refine aa rfl (bq gx rfl) (aa rfl (ai rfl) (ag (ab (av (au (.inl rfl) (.cons (ak rfl) .nil) ?_)))))
 exact ⟨_, ⟨rfl, rfl⟩, qT rfl⟩
theorem qV (W0 : World) (R : List HP) (b : Nat) (its : List It) (tl : List Value) (i k : Nat) (hi : i < its.length) (hk : k < its.length) :
    aC Tryz.prog W0 505 [.pointer (some ⟨b, 0, none⟩), .int .i64 i, .int .i64 k] (e7 b (its, tl) :: R) (fun v B => v = .bool (decide (us its i < us its k)) ∧ B = e7 b (its, tl) :: R) := by
 refine qU (uV hi) fun g c sp h1 h2 h3 => ?_
 refine aF func505 ntmps505 rfl rfl ?_
 refine ae (ah (aa rfl (ai rfl) (ag (ab (ae ?_)))))
 refine cY [(b, 0, _), (g, 0, _)] 18 cV rfl (aV (aV aK)) (fun hS => ?_)
 refine aj 0 rfl rfl (by kernel_rfl) (by kernel_rfl) (by kernel_rfl) rfl hS (ac rfl) ?_
 refine aj 1 rfl rfl (by kernel_rfl) (by kernel_rfl) (by kernel_rfl) rfl hS (aH rfl) ?_
 refine aj 2 rfl rfl (by kernel_rfl) (by kernel_rfl) (by kernel_rfl) rfl hS (ao rfl gY rfl g7 rfl (by first | exact Nat.zero_add _ | rfl)) ?_
 refine aj 3 rfl rfl (by kernel_rfl) (by kernel_rfl) (by kernel_rfl) rfl hS (ap iH rfl (by first | exact aG (k := 0) rfl rfl | exact aG (k := 1) rfl rfl)) ?_
 refine aj 4 rfl rfl (by kernel_rfl) (by kernel_rfl) (by kernel_rfl) rfl hS (ac rfl) ?_
 refine aj 5 rfl rfl (by kernel_rfl) (by kernel_rfl) (by kernel_rfl) rfl hS (bY gx eV rfl rfl rfl hi (by first | exact Nat.zero_add _ | rfl)) ?_
 refine aj 6 rfl rfl (by kernel_rfl) (by kernel_rfl) (by kernel_rfl) rfl hS (ao rfl rL rfl az rfl (by first | exact Nat.zero_add _ | rfl)) ?_
 refine aj 7 rfl rfl (by kernel_rfl) (by kernel_rfl) (by kernel_rfl) rfl hS (ap aM rfl (aG (k := 1) rfl ((uU its sp i 5 hi (by decide)).trans rfl))) ?_
 refine aj 8 rfl rfl (by kernel_rfl) (by kernel_rfl) (by kernel_rfl) rfl hS (ac rfl) ?_
 refine aj 9 rfl rfl (by kernel_rfl) (by kernel_rfl) (by kernel_rfl) rfl hS (aH rfl) ?_
 refine aj 10 rfl rfl (by kernel_rfl) (by kernel_rfl) (by kernel_rfl) rfl hS (ao rfl gY rfl g7 rfl (by first | exact Nat.zero_add _ | rfl)) ?_
 refine aj 11 rfl rfl (by kernel_rfl) (by kernel_rfl) (by kernel_rfl) rfl hS (ap iH rfl (by first | exact aG (k := 0) rfl rfl | exact aG (k := 1) rfl rfl)) ?_
 refine aj 12 rfl rfl (by kernel_rfl) (by kernel_rfl) (by kernel_rfl) rfl hS (ac rfl) ?_
 refine aj 13 rfl rfl (by kernel_rfl) (by kernel_rfl) (by kernel_rfl) rfl hS (bY gx eV rfl rfl rfl hk (by first | exact Nat.zero_add _ | rfl)) ?_
 refine aj 14 rfl rfl (by kernel_rfl) (by kernel_rfl) (by kernel_rfl) rfl hS (ao rfl rL rfl az rfl (by first | exact Nat.zero_add _ | rfl)) ?_
 refine aj 15 rfl rfl (by kernel_rfl) (by kernel_rfl) (by kernel_rfl) rfl hS (ap aM rfl (aG (k := 1) rfl ((uU its sp k 5 hk (by decide)).trans rfl))) ?_
 refine aj 16 rfl rfl (by kernel_rfl) (by kernel_rfl) (by kernel_rfl) rfl hS (aY rfl rfl) ?_
 refine aj 17 rfl rfl (by kernel_rfl) (by kernel_rfl) (by kernel_rfl) rfl hS (ai rfl) ?_
 refine cg (by kernel_rfl) ?_; clear hS
 refine ab (av (au (.inl rfl) (.cons (ak rfl) .nil) ?_))
 exact ⟨_, ⟨rfl, rfl⟩, nY rfl rfl h1 h2 h3⟩
theorem qW (W0 : World) (R : List HP) (b : Nat) (its : List It) (tl : List Value) (i k : Nat) (hi : i < its.length) (hk : k < its.length) :
    aC Tryz.prog W0 508 [.pointer (some ⟨b, 0, none⟩), .int .i64 i, .int .i64 k] (e7 b (its, tl) :: R) (fun v B => v = .tuple #[] ∧ B = e7 b (swapL its i k, tl) :: R) := by
 refine qU (uV hi) fun g c sp h1 h2 h3 => ?_
 refine aF func508 ntmps508 rfl rfl ?_
 refine cY [(b, 0, _)] 28 cV rfl (aV aK) (fun hS => ?_)
 refine aj 0 rfl rfl (by kernel_rfl) (by kernel_rfl) (by kernel_rfl) rfl hS (ac rfl) ?_
 refine aj 1 rfl rfl (by kernel_rfl) (by kernel_rfl) (by kernel_rfl) rfl hS (aH rfl) ?_
 refine aj 2 rfl rfl (by kernel_rfl) (by kernel_rfl) (by kernel_rfl) rfl hS (ao rfl gY rfl g7 rfl (by first | exact Nat.zero_add _ | rfl)) ?_
 refine aj 3 rfl rfl (by kernel_rfl) (by kernel_rfl) (by kernel_rfl) rfl hS (ap iH rfl (aG (k := 0) rfl rfl)) ?_
 refine aj 4 rfl rfl (by kernel_rfl) (by kernel_rfl) (by kernel_rfl) rfl hS (ac rfl) ?_
 refine aj 5 rfl rfl (by kernel_rfl) (by kernel_rfl) (by kernel_rfl) rfl hS (ac rfl) ?_
 refine aj 6 rfl rfl (by kernel_rfl) (by kernel_rfl) (by kernel_rfl) rfl hS (aH rfl) ?_
 refine aj 7 rfl rfl (by kernel_rfl) (by kernel_rfl) (by kernel_rfl) rfl hS (ao rfl gY rfl g7 rfl (by first | exact Nat.zero_add _ | rfl)) ?_
 refine aj 8 rfl rfl (by kernel_rfl) (by kernel_rfl) (by kernel_rfl) rfl hS (ap iH rfl (aG (k := 0) rfl rfl)) ?_
 refine aj 9 rfl rfl (by kernel_rfl) (by kernel_rfl) (by kernel_rfl) rfl hS (ac rfl) ?_
 refine aj 10 rfl rfl (by kernel_rfl) (by kernel_rfl) (by kernel_rfl) rfl hS (ac rfl) ?_
 refine aj 11 rfl rfl (by kernel_rfl) (by kernel_rfl) (by kernel_rfl) rfl hS (aH rfl) ?_
 refine aj 12 rfl rfl (by kernel_rfl) (by kernel_rfl) (by kernel_rfl) rfl hS (ao rfl gY rfl g7 rfl (by first | exact Nat.zero_add _ | rfl)) ?_
 refine aj 13 rfl rfl (by kernel_rfl) (by kernel_rfl) (by kernel_rfl) rfl hS (ap iH rfl (aG (k := 0) rfl rfl)) ?_
 refine aj 14 rfl rfl (by kernel_rfl) (by kernel_rfl) (by kernel_rfl) rfl hS (ac rfl) ?_
 refine aj 15 rfl rfl (by kernel_rfl) (by kernel_rfl) (by kernel_rfl) rfl hS (bY gx eV rfl rfl rfl hk (by first | exact Nat.zero_add _ | rfl)) ?_
 refine aj 17 rfl rfl (by kernel_rfl) (by kernel_rfl) (by kernel_rfl) rfl hS (ac rfl) ?_
 refine aj 18 rfl rfl (by kernel_rfl) (by kernel_rfl) (by kernel_rfl) rfl hS (aH rfl) ?_
 refine aj 19 rfl rfl (by kernel_rfl) (by kernel_rfl) (by kernel_rfl) rfl hS (ao rfl gY rfl g7 rfl (by first | exact Nat.zero_add _ | rfl)) ?_
 refine aj 20 rfl rfl (by kernel_rfl) (by kernel_rfl) (by kernel_rfl) rfl hS (ap iH rfl (aG (k := 0) rfl rfl)) ?_
 refine aj 21 rfl rfl (by kernel_rfl) (by kernel_rfl) (by kernel_rfl) rfl hS (ac rfl) ?_
 refine aj 22 rfl rfl (by kernel_rfl) (by kernel_rfl) (by kernel_rfl) rfl hS (bY gx eV rfl rfl rfl hi (by first | exact Nat.zero_add _ | rfl)) ?_
 refine iL (is := [16, 23]) (by kernel_rfl) rfl ⟨?_, ?_, trivial⟩
 skip
 refine f8 rfl rfl (eD (cQ mK eV rfl (fz (mm its sp k hk) rfl) rfl)) rfl ?_; clear hS
 rintro _ _ ⟨rfl, rfl⟩
 refine ⟨(aV aK), fun hS => ?_⟩
 refine bB 23 (by kernel_rfl) rfl rfl (eD (cQ mK eV rfl (fz (mm its sp i hi) rfl) rfl)) rfl ?_; clear hS
 rintro _ _ ⟨rfl, rfl⟩
 refine ⟨(aV aK), fun hS => ?_⟩
 refine aj 24 rfl rfl (by kernel_rfl) (by kernel_rfl) (by kernel_rfl) rfl hS (bY gx eV rfl rfl rfl hi (by first | exact Nat.zero_add _ | rfl)) ?_
 refine bB 25 (by kernel_rfl) rfl rfl (ir eV rfl rfl rfl rfl (o8 its sp i hi) (nZ its sp i (its.getD k default) hi)) rfl ?_; clear hS
 rintro _ _ rfl
 refine ⟨(aV aK), fun hS => ?_⟩
 refine aj 26 rfl rfl (by kernel_rfl) (by kernel_rfl) (by kernel_rfl) rfl hS (bY gx eV rfl rfl rfl hk (by first | exact Nat.zero_add _ | rfl)) ?_
 refine bB 27 (by kernel_rfl) rfl rfl (ir eV rfl rfl rfl rfl (o8 (its.set i (its.getD k default)) sp k (by simpa using hk)) (nZ (its.set i (its.getD k default)) sp k (its.getD i default) (by simpa using hk))) rfl ?_; clear hS
 rintro _ _ rfl
 refine ⟨(aV aK), fun hS => ?_⟩
 refine cg (by kernel_rfl) ?_; clear hS
 refine au (.inr rfl) .nil ?_
 exact ⟨_, ⟨rfl, rfl⟩, nY rfl (by simp [swapL]) (by simpa [swapL] using h1) h2 (by simpa [swapL, dm ju] using h3)⟩
 skip
 refine f8 rfl rfl (eD (cQ mK eV rfl (fz (mm its sp i hi) rfl) rfl)) rfl ?_; clear hS
 rintro _ _ ⟨rfl, rfl⟩
 refine ⟨(aV aK), fun hS => ?_⟩
 refine bB 16 (by kernel_rfl) rfl rfl (eD (cQ mK eV rfl (fz (mm its sp k hk) rfl) rfl)) rfl ?_; clear hS
 rintro _ _ ⟨rfl, rfl⟩
 refine ⟨(aV aK), fun hS => ?_⟩
 refine aj 24 rfl rfl (by kernel_rfl) (by kernel_rfl) (by kernel_rfl) rfl hS (bY gx eV rfl rfl rfl hi (by first | exact Nat.zero_add _ | rfl)) ?_
 refine bB 25 (by kernel_rfl) rfl rfl (ir eV rfl rfl rfl rfl (o8 its sp i hi) (nZ its sp i (its.getD k default) hi)) rfl ?_; clear hS
 rintro _ _ rfl
 refine ⟨(aV aK), fun hS => ?_⟩
 refine aj 26 rfl rfl (by kernel_rfl) (by kernel_rfl) (by kernel_rfl) rfl hS (bY gx eV rfl rfl rfl hk (by first | exact Nat.zero_add _ | rfl)) ?_
 refine bB 27 (by kernel_rfl) rfl rfl (ir eV rfl rfl rfl rfl (o8 (its.set i (its.getD k default)) sp k (by simpa using hk)) (nZ (its.set i (its.getD k default)) sp k (its.getD i default) (by simpa using hk))) rfl ?_; clear hS
 rintro _ _ rfl
 refine ⟨(aV aK), fun hS => ?_⟩
 refine cg (by kernel_rfl) ?_; clear hS
 refine au (.inr rfl) .nil ?_
 exact ⟨_, ⟨rfl, rfl⟩, nY rfl (by simp [swapL]) (by simpa [swapL] using h1) h2 (by simpa [swapL, dm ju] using h3)⟩
theorem B9 (W0 : World) (R : List HP) (b : Nat) (its : List It) (x : It) (tl : List Value) :
    aC Tryz.prog W0 506 [.pointer (some ⟨b, 0, none⟩)] (e7 b (its ++ [x], tl) :: R) (fun v B => v = .iface 518 (.agg (ee x).toArray) ∧ B = e7 b (its, tl) :: R) := by
 refine qU (by simp) fun g c sp h1 h2 h3 => ?_
 have hl : (its ++ [x]).length = its.length + 1 := by simp
 rw [hl] at h1 ⊢
 have hg : (its ++ [x]).getD its.length default = x := by simp [List.getD]
 have hr := mm (its ++ [x]) sp its.length (by omega)
 rw [hg] at hr
 have he : (its ++ [x]).flatMap ee ++ sp = its.flatMap ee ++ (ee x ++ sp) := by simp
 refine aF func506 ntmps506 rfl rfl ?_
 refine ae (ah (aa rfl (ai rfl) (ag (ab (ae (ah (aa rfl (ac rfl) (aa rfl (aH rfl) ?_))))))))
 refine aa rfl (ao rfl gY rfl g7 rfl (by first | exact Nat.zero_add _ | rfl)) ?_
 refine aa rfl (ap iH rfl (aA rfl)) ?_
 refine aa rfl (bq gx rfl) ?_
 refine aa rfl (dW rfl rfl (by rw [aW (by simp only [maxLen] at h2; omega)]; omega : IntKind.wrap .i64 (((its.length + 1 : Nat) : Int) - 1) = ((its.length : Nat) : Int))) ?_
 refine aa rfl (ai rfl) (ag (ab (ae (ah (aa rfl (ac rfl) (aa rfl (aH rfl) ?_))))))
 refine aa rfl (ao rfl gY rfl g7 rfl (by first | exact Nat.zero_add _ | rfl)) ?_
 refine aa rfl (ap iH rfl (aA rfl)) ?_
 refine aa rfl (ac rfl) ?_
 refine aa rfl (bY gx eV rfl rfl rfl (by omega) (by first | exact Nat.zero_add _ | rfl)) ?_
 refine aa rfl (cQ mK eV rfl (fz hr rfl) rfl) ?_
 refine am rfl (dd w7) ?_
 rintro _ _ ⟨b1, rfl, rfl⟩
 refine bE (cK eV rfl rfl rfl rfl rfl) ?_
 rintro _ _ rfl
 refine ag (ab (ae (ah (aa rfl (ac rfl) (aa rfl (ac rfl) (aa rfl (aH rfl) ?_))))))
 refine aa rfl (ao rfl gY rfl g7 rfl (by first | exact Nat.zero_add _ | rfl)) ?_
 refine aa rfl (ap iH rfl (aA rfl)) ?_
 refine aa rfl (ac rfl) ?_
 refine aa rfl (jN gx eV rfl rfl rfl (by omega)) ?_
 refine aa rfl (aH rfl) ?_
 refine aa rfl (ao rfl gY rfl g7 rfl (by first | exact Nat.zero_add _ | rfl)) ?_
 refine bE (ce g7 rfl rfl rfl (Nat.le_of_ble_eq_true rfl) SetL.eq) ?_
 rintro _ _ rfl
 refine ag (ab (ae (ah (aa rfl (cu mK eV rfl rfl) ?_))))
 refine aa rfl (lQ rL (fun _ h => by cases h) rfl) ?_
 refine aa rfl (ai rfl) (ag (ab (av (au (.inl rfl) (.cons (ak rfl) .nil) ?_))))
 rw [he]
 exact ⟨_, ⟨rfl, rfl⟩, nY (sp := ee x ++ sp) rfl rfl (by omega) h2 (by rw [← he]; exact h3)⟩
theorem Ba (W0 : World) (R : List HP) (b : Nat) (its : List It) (x : It) (tl : List Value) (hn : its.length < 1000) :
    aC Tryz.prog W0 507 [.pointer (some ⟨b, 0, none⟩), .iface 518 (.agg (ee x).toArray)] (e7 b (its, tl) :: R) (fun v B => v = .tuple #[] ∧ B = e7 b (its ++ [x], tl) :: R) := by
 refine qS fun a c => ?_
 have he : its.flatMap ee ++ [ee x].flatten = (its ++ [x]).flatMap ee := by simp
 refine aF func507 ntmps507 rfl rfl ?_
 refine cY [] 12 cV rfl aK (fun hS => ?_)
 refine aj 0 rfl rfl (by kernel_rfl) (by kernel_rfl) (by kernel_rfl) rfl hS (ac rfl) ?_
 refine aj 1 rfl rfl (by kernel_rfl) (by kernel_rfl) (by kernel_rfl) rfl hS (ac rfl) ?_
 refine aj 2 rfl rfl (by kernel_rfl) (by kernel_rfl) (by kernel_rfl) rfl hS (aH rfl) ?_
 refine aj 3 rfl rfl (by kernel_rfl) (by kernel_rfl) (by kernel_rfl) rfl hS (ao rfl gY rfl g7 rfl (by first | exact Nat.zero_add _ | rfl)) ?_
 refine aj 5 rfl rfl (by kernel_rfl) (by kernel_rfl) (by kernel_rfl) rfl hS (ac rfl) ?_
 refine aj 6 rfl rfl (by kernel_rfl) (by kernel_rfl) (by kernel_rfl) rfl hS (p5 rL (fun _ h => by cases h) rfl) ?_
 refine iL (is := [4, 7]) (by kernel_rfl) rfl ⟨?_, ?_, trivial⟩
 skip
 refine f8 rfl rfl (eD (ap iH rfl (aA rfl))) rfl ?_; clear hS
 rintro _ _ ⟨rfl, rfl⟩
 refine ⟨aK, fun hS => ?_⟩
 refine bB 7 (by kernel_rfl) rfl rfl (fN gx eV w7 rfl (eM rfl rfl fM) rfl (by decide) (by decide) (by decide)) rfl ?_; clear hS
 rintro _ _ ⟨b1, rfl, rfl⟩
 refine ⟨aK, fun hS => ?_⟩
 refine bB 8 (by kernel_rfl) rfl rfl (dL (sz := 6) (by_ := 48) (info := Tryz.t518) gx (by kernel_rfl) rfl rfl rfl rfl (by decide) rfl rfl dM rfl rfl (by simp only [maxLen]; omega) (by omega)) rfl ?_; clear hS
 rintro _ _ ⟨a1, c1, rfl, rfl⟩
 refine ⟨aK, fun hS => ?_⟩
 refine aj 9 rfl rfl (by kernel_rfl) (by kernel_rfl) (by kernel_rfl) rfl hS (aH rfl) ?_
 refine aj 10 rfl rfl (by kernel_rfl) (by kernel_rfl) (by kernel_rfl) rfl hS (ao rfl gY rfl g7 rfl (by first | exact Nat.zero_add _ | rfl)) ?_
 refine bB 11 (by kernel_rfl) rfl rfl (ce g7 rfl rfl rfl (Nat.le_of_ble_eq_true rfl) SetL.eq) rfl ?_; clear hS
 rintro _ _ rfl
 refine ⟨aK, fun hS => ?_⟩
 refine cg (by kernel_rfl) ?_; clear hS
 refine au (.inr rfl) .nil ?_
 rw [he]
 exact ⟨_, ⟨rfl, rfl⟩, qT (its := its ++ [x]) (by simp)⟩
 skip
 refine f8 rfl rfl (fN gx eV w7 rfl (eM rfl rfl fM) rfl (by decide) (by decide) (by decide)) rfl ?_; clear hS
 rintro _ _ ⟨b1, rfl, rfl⟩
 refine ⟨aK, fun hS => ?_⟩
 refine bB 4 (by kernel_rfl) rfl rfl (eD (ap iH rfl (aA rfl))) rfl ?_; clear hS
 rintro _ _ ⟨rfl, rfl⟩
 refine ⟨aK, fun hS => ?_⟩
 refine bB 8 (by kernel_rfl) rfl rfl (dL (sz := 6) (by_ := 48) (info := Tryz.t518) gx (by kernel_rfl) rfl rfl rfl rfl (by decide) rfl rfl dM rfl rfl (by simp only [maxLen]; omega) (by omega)) rfl ?_; clear hS
 rintro _ _ ⟨a1, c1, rfl, rfl⟩
 refine ⟨aK, fun hS => ?_⟩
 refine aj 9 rfl rfl (by kernel_rfl) (by kernel_rfl) (by kernel_rfl) rfl hS (aH rfl) ?_
 refine aj 10 rfl rfl (by kernel_rfl) (by kernel_rfl) (by kernel_rfl) rfl hS (ao rfl gY rfl g7 rfl (by first | exact Nat.zero_add _ | rfl)) ?_
 refine bB 11 (by kernel_rfl) rfl rfl (ce g7 rfl rfl rfl (Nat.le_of_ble_eq_true rfl) SetL.eq) rfl ?_; clear hS
 rintro _ _ rfl
 refine ⟨aK, fun hS => ?_⟩
 refine cg (by kernel_rfl) ?_; clear hS
 refine au (.inr rfl) .nil ?_
 rw [he]
 exact ⟨_, ⟨rfl, rfl⟩, qT (its := its ++ [x]) (by simp)⟩
section
variable (w : World) (a : Addr)
theorem uX : (method (Tryz.prog.types.size + Made.depth) 590 (.pointer (some a)) "Len").run Tryz.prog w = .ok (492, .pointer (some a)) w := by kernel_rfl
theorem qX : (method (Tryz.prog.types.size + Made.depth) 590 (.pointer (some a)) "Less").run Tryz.prog w = .ok (505, .pointer (some a)) w := by kernel_rfl
theorem qY : (method (Tryz.prog.types.size + Made.depth) 590 (.pointer (some a)) "Swap").run Tryz.prog w = .ok (508, .pointer (some a)) w := by kernel_rfl
theorem Bb : (method (Tryz.prog.types.size + Made.depth) 590 (.pointer (some a)) "Push").run Tryz.prog w = .ok (507, .pointer (some a)) w := by kernel_rfl
theorem Bc : (method (Tryz.prog.types.size + Made.depth) 590 (.pointer (some a)) "Pop").run Tryz.prog w = .ok (506, .pointer (some a)) w := by kernel_rfl
end
def kc (b : Nat) : Value := .iface 590 (.pointer (some ⟨b, 0, none⟩))
theorem pO {j : Nat} (h : j < 1000) : IntKind.wrap .i64 (Int.tdiv ((j : Int) - 1) 2) = (((j - 1) / 2 : Nat) : Int) := by
 by_cases h0 : j = 0
 subst h0; decide
 obtain ⟨k, rfl⟩ : ∃ k, j = k + 1 := ⟨j - 1, by omega⟩
 have e : ((k + 1 : Nat) : Int) - 1 = (k : Int) := by omega
 rw [e, Int.tdiv_eq_ediv_of_nonneg (by omega), aW (by omega)]; simp
theorem m5 {l l0 : List It} {i j n : Nat} (hi : i < n) (hj : j < n) (hn : n ≤ l.length) (h : ∀ x, n ≤ x → l.getD x default = l0.getD x default) : ∀ x, n ≤ x → (swapL l i j).getD x default = l0.getD x default := fun x hx => by
 rw [jR (by omega) (by omega), if_neg (by omega), if_neg (by omega)]; exact h x hx
theorem pP (W0 : World) (R : List HP) (b : Nat) (its : List It) (tl : List Value) (j n : Nat) (hn : n ≤ its.length) (hN : n < 1000) (hj : j < n) (hU : Up its j n) :
    aC Tryz.prog W0 293 [kc b, .int .i64 j] (e7 b (its, tl) :: R) (fun v B => v = .tuple #[] ∧ ∃ its', B = e7 b (its', tl) :: R ∧ its'.Perm its ∧ Heap its' n ∧ ∀ x, n ≤ x → its'.getD x default = its.getD x default) := by
 refine aF func293 ntmps293 rfl rfl ?_
 refine b0 ?_
 refine cC (fun X : List It × Nat => X.1.Perm its ∧ X.2 < n ∧ Up X.1 X.2 n ∧ ∀ x, n ≤ x → X.1.getD x default = its.getD x default) (fun X => [(0, kc b), (1, .int .i64 X.2)]) (fun X => e7 b (X.1, tl) :: R) (fun X => X.2) (its, j) ?_ ?_ ?_ ?_
 exact ⟨List.Perm.refl _, hj, hU, fun _ _ => rfl⟩
 · repeat (first | exact aX | refine aU rfl ?_)
 exact inferInstance
 intro ⟨l, j⟩ ⟨hp, hj, hU, ht⟩
 have hlen := hp.length_eq
 simp only at hj hU ht hp hlen ⊢
 refine b0 (ae (ah (aa rfl (ac rfl) ?_)))
 refine aa rfl (dW rfl rfl (by first | exact aW (by omega) | rfl)) ?_
 refine aa rfl (s7 rfl rfl (by decide) (pO (by omega))) ?_
 refine aa rfl (ai rfl) (ag (ab (ae (ae (ah (aa rfl (ac rfl) (aa rfl (ac rfl) (aa rfl (cz rfl rfl) (aa rfl (ac rfl) ?_)))))))))
 refine bA rfl rfl rfl ?_ ?_
 intro g1_4
 refine al rfl rfl rfl rfl (al rfl rfl rfl rfl (al rfl rfl rfl rfl (al rfl rfl rfl rfl (aa rfl (aT rfl rfl) (ag (ab (bR rfl (bX (bi (eK rfl (bi (bZ (au (.inr rfl) .nil ?_)))))))))))))
 exact ⟨_, ⟨rfl, l, rfl, hp, m0 hU (by intro _; first | omega | (simp at c1; omega)), ht⟩, inferInstance⟩
 intro g1_4
 refine aa rfl (ac rfl) (ar rfl rfl (aa rfl (ac rfl) (ar rfl rfl (aa rfl (ac rfl) (ar rfl rfl ?_)))))
 refine am rfl (f9 rfl ((fun w => qX w _)) w8 rfl (qV W0 _ b l tl j ((j - 1) / 2) (by omega) (by omega))) ?_
 rintro _ B_ ⟨rfl, hB_⟩
 obtain rfl := hB_.symm
 refine ar rfl rfl (aa rfl (bN rfl) (aa rfl (aJ rfl rfl) (ag (ab ?_))))
 refine ax rfl ?_ ?_
 intro c1
 refine bX (bi (eK rfl (bi (bZ (au (.inr rfl) .nil ?_)))))
 exact ⟨_, ⟨rfl, l, rfl, hp, m0 hU (by intro _; first | omega | (simp at c1; omega)), ht⟩, inferInstance⟩
 intro c1
 replace c1 : us l j < us l ((j - 1) / 2) := by simpa using c1
 refine aB (ab (ae (ah (aa rfl (ac rfl) (aa rfl (ac rfl) (aa rfl (ac rfl) ?_))))))
 refine am rfl (f9 rfl ((fun w => qY w _)) w9 rfl (qW W0 _ b l tl ((j - 1) / 2) j (by omega) (by omega))) ?_
 rintro _ B_ ⟨rfl, hB_⟩
 obtain rfl := hB_.symm
 refine ag (ab (ah (aa rfl (ac rfl) (aa rfl (ai rfl) (ag (bF (ab ?_)))))))
 refine cp (swapL l ((j - 1) / 2) j, (j - 1) / 2) ?_ ?_ ?_ ?_
 exact ⟨(jS (by omega) (by omega)).trans hp, by show (j - 1) / 2 < n; omega, pz hU (by omega) hj (by omega) c1, m5 (by omega) hj (by omega) ht⟩
 show (j - 1) / 2 < j; omega
 · repeat (first | exact aX | refine aU rfl ?_)
 exact inferInstance
theorem pQ (W0 : World) (R : List HP) (b : Nat) (its : List It) (tl : List Value) (i0 n : Nat) (hn : n ≤ its.length) (hN : n < 1000) (hi : i0 ≤ n) (hH : gj its i0 n) :
    aC Tryz.prog W0 361 [kc b, .int .i64 i0, .int .i64 n] (e7 b (its, tl) :: R) (fun v B => ∃ l m, v = .bool m ∧ B = e7 b (l, tl) :: R ∧ Down its l i0 n m) := by
 refine aF func361 ntmps361 rfl rfl ?_
 refine ae (ah (aa rfl (ai rfl) (ag (ab (ae (ah (aa rfl (ac rfl) (aa rfl (ai rfl) (ag (ab (ae (b0 ?_))))))))))))
 refine cC (fun X : List It × Nat => X.1.Perm its ∧ i0 ≤ X.2 ∧ gj X.1 X.2 n ∧ (∀ x, n ≤ x → X.1.getD x default = its.getD x default) ∧ (X.2 = i0 → X.1 = its) ∧ (i0 < X.2 → us X.1 ((X.2 - 1) / 2) ≤ us X.1 X.2) ∧ X.2 ≤ n) (fun X => [(0, kc b), (1, .int .i64 i0), (2, .int .i64 n), (7, .int .i64 X.2)]) (fun X => e7 b (X.1, tl) :: R) (fun X => n - X.2) (its, i0) ?_ ?_ ?_ ?_
 exact ⟨List.Perm.refl _, Nat.le_refl _, hH, fun _ _ => rfl, fun _ => rfl, fun h => absurd h (Nat.lt_irrefl _), hi⟩
 · repeat (first | exact aX | refine aU rfl ?_)
 exact inferInstance
 intro ⟨l, i⟩ ⟨hp, hi0, hl, ht, he, hg, hin⟩
 have hlen := hp.length_eq
 simp only at hp hi0 hl ht he hg hin hlen ⊢
 refine b0 (ae (ah (aa rfl (ac rfl) ?_)))
 refine aa rfl (iq rfl rfl (by first | exact aW (by omega) | rfl)) ?_
 refine aa rfl (bC rfl rfl (by rw [aW (by omega)]; omega : IntKind.wrap .i64 (2 * (i : Int) + 1) = ((2 * i + 1 : Nat) : Int))) ?_
 refine aa rfl (ai rfl) (ag (ab (ae (ae (ah (aa rfl (ac rfl) (aa rfl (ac rfl) (aa rfl (cF rfl rfl) (aa rfl (ac rfl) ?_)))))))))
 refine bA rfl rfl rfl ?_ ?_
 intro g3_4
 refine al rfl rfl rfl rfl (aa rfl (aT rfl rfl) (ag (ab (bR rfl (bX (bi (eK rfl (bi (bZ (ab (ae (ah (aa rfl (ac rfl) (aa rfl (ac rfl) (aa rfl (cd rfl rfl) (aa rfl (ai rfl) (ag (ab (av (au (.inl rfl) (.cons (ak rfl) .nil) ?_))))))))))))))))))))
 refine ⟨_, ⟨l, decide (i0 < i), by simp [cA], rfl, m4 hp hi0 hl ht he hg ?_⟩, inferInstance⟩
 first | (intro c hc h0 h1; exfalso; omega) | (intro c hc h0 h1; have := hmin c hc h0 h1; simp at c8; omega)
 intro g3_4
 refine aa rfl (ac rfl) (ar rfl rfl (aa rfl (aY rfl rfl) (aa rfl (aJ rfl rfl) (ag (ab ?_)))))
 refine ax rfl ?_ ?_
 intro c3
 omega
 intro c3
 refine aB (ab (ae (ah (aa rfl (ac rfl) (aa rfl (ai rfl) (ag (ab ?_)))))))
 refine gM (fun j : Nat => (j - 1) / 2 = i ∧ 0 < j ∧ j < n ∧ ∀ c, c < n → 0 < c → (c - 1) / 2 = i → us l j ≤ us l c) (fun j => [(0, kc b), (1, .int .i64 i0), (2, .int .i64 n), (7, .int .i64 i), (9, .int .i64 j)]) (fun j => e7 b (l, tl) :: R) ?_ ?_
 skip
 refine ae (ah (aa rfl (ac rfl) ?_))
 refine aa rfl (bC rfl rfl (by rw [aW (by omega)]; omega : IntKind.wrap .i64 (((2 * i + 1 : Nat) : Int) + 1) = ((2 * i + 2 : Nat) : Int))) ?_
 refine aa rfl (ai rfl) (ag (ab (ae (ah (aa rfl (ac rfl) (aa rfl (ac rfl) (aa rfl (aY rfl rfl) (aa rfl (ac rfl) ?_))))))))
 refine cG rfl rfl rfl ?_ ?_
 intro g6_4
 refine aa rfl (ac rfl) (ar rfl rfl (aa rfl (ac rfl) (ar rfl rfl (aa rfl (ac rfl) (ar rfl rfl ?_)))))
 refine am rfl (f9 rfl ((fun w => qX w _)) w8 rfl (qV W0 _ b l tl (2 * i + 2) (2 * i + 1) (by omega) (by omega))) ?_
 rintro _ B_ ⟨rfl, hB_⟩
 obtain rfl := hB_.symm
 refine aa rfl (aT rfl rfl) (ag (ab ?_))
 refine ax rfl ?_ ?_
 intro c6
 refine ah (aa rfl (ac rfl) (aa rfl (ai rfl) (ag (ab ?_))))
 refine dK (2 * i + 2) ?_ ?_ ?_
 refine ⟨by omega, by omega, by omega, fun c hc h0 h1 => ?_⟩
 have : c = 2 * i + 1 ∨ c = 2 * i + 2 := by omega
 rcases this with rfl | rfl <;> omega
 · repeat (first | exact aX | refine aU rfl ?_)
 exact inferInstance
 intro c6
 refine aB (ab ?_)
 refine dK (2 * i + 1) ?_ ?_ ?_
 refine ⟨by omega, by omega, by omega, fun c hc h0 h1 => ?_⟩
 have : c = 2 * i + 1 ∨ c = 2 * i + 2 := by omega
 rcases this with rfl | rfl <;> omega
 · repeat (first | exact aX | refine aU rfl ?_)
 exact inferInstance
 intro g6_4
 refine al rfl rfl rfl rfl (al rfl rfl rfl rfl (al rfl rfl rfl rfl (aa rfl (aJ rfl rfl) (ag (ab (eL rfl (aB (ab ?_))))))))
 refine dK (2 * i + 1) ?_ ?_ ?_
 refine ⟨by omega, by omega, by omega, fun c hc h0 h1 => ?_⟩
 have : c = 2 * i + 1 ∨ c = 2 * i + 2 := by omega
 rcases this with rfl | rfl <;> omega
 · repeat (first | exact aX | refine aU rfl ?_)
 exact inferInstance
 intro j ⟨hj, hj0, hjn, hmin⟩
 refine ae (ae (ah (aa rfl (ac rfl) (aa rfl (ac rfl) (aa rfl (ac rfl) ?_)))))
 refine am rfl (f9 rfl ((fun w => qX w _)) w8 rfl (qV W0 _ b l tl j i (by omega) (by omega))) ?_
 rintro _ B_ ⟨rfl, hB_⟩
 obtain rfl := hB_.symm
 refine aa rfl (bN rfl) (ag (ab ?_))
 refine ax rfl ?_ ?_
 intro c8
 refine bX (bi (eK rfl (bi (bZ (ab (ae (ah (aa rfl (ac rfl) (aa rfl (ac rfl) (aa rfl (cd rfl rfl) (aa rfl (ai rfl) (ag (ab (av (au (.inl rfl) (.cons (ak rfl) .nil) ?_)))))))))))))))
 refine ⟨_, ⟨l, decide (i0 < i), by simp [cA], rfl, m4 hp hi0 hl ht he hg ?_⟩, inferInstance⟩
 first | (intro c hc h0 h1; exfalso; omega) | (intro c hc h0 h1; have := hmin c hc h0 h1; simp at c8; omega)
 intro c8
 replace c8 : us l j < us l i := by simpa using c8
 refine aB (ab (ae (ah (aa rfl (ac rfl) (aa rfl (ac rfl) (aa rfl (ac rfl) ?_))))))
 refine am rfl (f9 rfl ((fun w => qY w _)) w9 rfl (qW W0 _ b l tl i j (by omega) (by omega))) ?_
 rintro _ B_ ⟨rfl, hB_⟩
 obtain rfl := hB_.symm
 refine ag (ab (ah (aa rfl (ac rfl) (aa rfl (ai rfl) (ag (bF (ab ?_)))))))
 refine cp (swapL l i j, j) ?_ ?_ ?_ ?_
 have hs := py hl (by omega) hjn hj hj0 c8 hmin
 exact ⟨(jS (by omega) (by omega)).trans hp, by show i0 ≤ j; omega, hs.1, m5 (by omega) hjn (by omega) ht, by show j = i0 → _; omega, fun _ => hs.2, by show j ≤ n; omega⟩
 show n - j < n - i; omega
 · repeat (first | exact aX | refine aU rfl ?_)
 exact inferInstance
theorem pR {its : List It} {x : It} (h : Heap its its.length) : Up (its ++ [x]) its.length (its.length + 1) := by
 have e : ∀ c, c < its.length → us (its ++ [x]) c = us its c := fun c hc => by
  unfold us; simp only [List.getD_eq_getElem?_getD]; rw [List.getElem?_append_left hc]
 intro c hc h0
 refine ⟨fun h1 => ?_, fun h1 h2 => by omega⟩
 rw [e c (by omega), e _ (by omega)]; exact h c (by omega) h0
theorem heapPush_spec (W0 : World) (R : List HP) (b : Nat) (its : List It) (x : It) (tl : List Value) (hN : its.length < 900) (hh : Heap its its.length) :
    aC Tryz.prog W0 176 [kc b, .iface 518 (.agg (ee x).toArray)] (e7 b (its, tl) :: R) (fun v B => v = .tuple #[] ∧ ∃ its', B = e7 b (its', tl) :: R ∧ its'.Perm (its ++ [x]) ∧ Heap its' its'.length) := by
 have hl : (its ++ [x]).length = its.length + 1 := by simp
 refine aF func176 ntmps176 rfl rfl ?_
 refine ae (ah (aa rfl (ac rfl) (aa rfl (ac rfl) ?_)))
 refine am rfl (f9 rfl ((fun w => Bb w _)) call507 rfl (Ba W0 _ b its x tl (by omega))) ?_
 rintro _ B_ ⟨rfl, hB_⟩
 obtain rfl := hB_.symm
 refine ag (ab (ah (aa rfl (ac rfl) (aa rfl (ac rfl) ?_))))
 refine am rfl (f9 rfl ((fun w => uX w _)) call492 rfl (uW W0 _ b (its ++ [x]) tl)) ?_
 rintro _ B_ ⟨rfl, hB_⟩
 obtain rfl := hB_.symm
 refine aa rfl (dW rfl rfl (by rw [aW (by omega)]; omega : IntKind.wrap .i64 (((its ++ [x]).length : Nat) - 1 : Int) = ((its.length : Nat) : Int))) ?_
 refine am rfl (bz call293 rfl (pP W0 _ b (its ++ [x]) tl its.length (its.length + 1) (by omega) (by omega) (by omega) (pR hh))) ?_
 rintro _ _ ⟨rfl, l', rfl, hp, hh', _⟩
 refine ag (au (.inr rfl) .nil ?_)
 exact ⟨_, ⟨rfl, l', rfl, hp, by rw [hp.length_eq, hl]; exact hh'⟩, inferInstance⟩
theorem pS {l : List It} {n : Nat} (h : l.length = n + 1) : ∃ l' x, l = l' ++ [x] ∧ l'.length = n ∧ x = l.getD n default := by
 have hne : l ≠ [] := fun e => by rw [e] at h; simp at h
 refine ⟨l.dropLast, l.getLast hne, (List.dropLast_concat_getLast hne).symm, by simp [h], ?_⟩
 rw [List.getLast_eq_getElem]
 simp [List.getD, h]
theorem pT {l : List It} {x : It} {n : Nat} (h : Heap (l ++ [x]) n) (hn : n ≤ l.length) : Heap l n :=
  pB (fun i hi => by simp only [List.getD_eq_getElem?_getD]; rw [List.getElem?_append_left (by omega)]) h
theorem heapPop_spec (W0 : World) (R : List HP) (b : Nat) (its : List It) (tl : List Value) (hN : its.length < 900) (h0 : its ≠ []) (hh : Heap its its.length) :
    aC Tryz.prog W0 300 [kc b] (e7 b (its, tl) :: R) (fun v B => ∃ x its', v = .iface 518 (.agg (ee x).toArray) ∧ B = e7 b (its', tl) :: R ∧ (its' ++ [x]).Perm its ∧ Heap its' its'.length ∧ ∀ y ∈ its, x.u ≤ y.u) := by
 obtain ⟨n, hn⟩ : ∃ n, its.length = n + 1 := ⟨its.length - 1, by have := List.length_pos_iff.2 h0; omega⟩
 have hs : gj (swapL its 0 n) 0 n := fun c hc h0 => ⟨fun h1 h2 => by
  rw [j5 (by omega) (by omega), j5 (by omega) (by omega), if_neg h2, if_neg h1, if_neg (by omega), if_neg (by omega)]
  exact hh c (by omega) h0, fun _ h => by omega⟩
 have hsl := pw its 0 n
 refine aF func300 ntmps300 rfl rfl ?_
 refine ae (ah (aa rfl (ai rfl) (ag (ab (ae (ah (aa rfl (ac rfl) ?_)))))))
 refine am rfl (f9 rfl ((fun w => uX w _)) call492 rfl (uW W0 _ b its tl)) ?_
 rintro _ B_ ⟨rfl, hB_⟩
 obtain rfl := hB_.symm
 refine aa rfl (dW rfl rfl (by rw [aW (by omega)]; omega : IntKind.wrap .i64 ((its.length : Nat) - 1 : Int) = ((n : Nat) : Int))) ?_
 refine aa rfl (ai rfl) (ag (ab (ae (ah (aa rfl (ac rfl) (aa rfl (ac rfl) ?_))))))
 refine am rfl (f9 rfl ((fun w => qY w _)) w9 rfl (qW W0 _ b its tl 0 n (by omega) (by omega))) ?_
 rintro _ B_ ⟨rfl, hB_⟩
 obtain rfl := hB_.symm
 refine ag (ab (ae (ah (aa rfl (ac rfl) (aa rfl (ac rfl) ?_)))))
 refine am rfl (bz call361 rfl (pQ W0 _ b (swapL its 0 n) tl 0 n (by omega) (by omega) (by omega) hs)) ?_
 rintro _ _ ⟨l, m, rfl, rfl, hD⟩
 have hll := hD.perm.length_eq
 obtain ⟨l', x, rfl, hl', hx⟩ := pS (l := l) (n := n) (by omega)
 have hx0 : x = its.getD 0 default := by
  rw [hx, hD.tail n (Nat.le_refl _), jR (by omega) (by omega)]; split
  rename_i e; subst e; rfl
  rw [if_pos rfl]
 have hp : (l' ++ [x]).Perm its := hD.perm.trans (jS (by omega) (by omega))
 have hH : Heap (l' ++ [x]) n := by
  cases m with
  | true => exact hD.yes rfl
  | false =>
   obtain ⟨e, hmin⟩ := hD.no rfl
   rw [e]; exact lZ hs hmin (fun h => absurd h (by omega))
 refine ag (ab (ae (ah (aa rfl (ac rfl) ?_))))
 refine am rfl (f9 rfl ((fun w => Bc w _)) call506 rfl (B9 W0 _ b l' x tl)) ?_
 rintro _ B_ ⟨rfl, hB_⟩
 obtain rfl := hB_.symm
 refine aa rfl (ai rfl) (ag (ab (av (au (.inl rfl) (.cons (ak rfl) .nil) ?_))))
 refine ⟨_, ⟨x, l', rfl, rfl, hp, by rw [hl']; exact pT hH (by omega), fun y hy => ?_⟩, inferInstance⟩
 obtain ⟨c, hc, rfl⟩ := List.mem_iff_getElem.1 hy
 have := pA hh c hc
 rw [pu hc] at this
 rw [hx0]; exact this
theorem Be (W0 : World) (R : List HP) (room : Nat) (h : room ≤ 4) :
    aC Tryz.prog W0 304 [.int .i64 room] R (fun v B => ∃ b, v = .tuple #[.pointer (some ⟨b, 0, none⟩), .int .i64 0] ∧ B = e7 b ([], [.int .i64 room, .int .i64 0, .bool true]) :: R) := by
 refine aF func304 ntmps304 rfl rfl ?_
 refine ae (ah (aa rfl (ai rfl) (aa rfl (ai rfl) (ag (ab (ae (ae (ah (aa rfl (ac rfl) (aa rfl (aY rfl rfl) (aa rfl (ac rfl) ?_)))))))))))
 refine bA rfl rfl rfl ?_ ?_
 intro g1_3
 omega
 intro g1_3
 refine aa rfl (ac rfl) (ar rfl rfl (aa rfl (cd rfl rfl) (aa rfl (aJ rfl rfl) (ag (ab ?_)))))
 refine ax rfl ?_ ?_
 intro c1
 omega
 intro c1
 refine aB (ab (ae (ah (aa rfl (ac rfl) (aa rfl (bQ underlying525 zeroValue525 (aE sizeOf523 (aE az (aE az (aE cB bP)))) (bn rfl az rfl rfl (Nat.le_of_ble_eq_true rfl) SetL.eq (bn rfl cB rfl rfl (Nat.le_of_ble_eq_true rfl) SetL.eq bO))) ?_)))))
 refine am rfl (bL rfl) ?_
 rintro _ _ ⟨b1, rfl, rfl⟩
 refine aa rfl (ai rfl) (aa rfl (ai rfl) (ag (ab (av (au (.inl rfl) (.cons (ak rfl) (.cons (ak rfl) .nil)) ?_)))))
 exact ⟨_, ⟨b1, rfl, rfl⟩, (Ent.cons (fb (B := R))).trans (eE (R := R) (C := [_, _]) ⟨none, 0, rfl⟩)⟩
abbrev uY (pv bt bs : Nat) : Obj := aw [.pointer (some ⟨pv, 0, none⟩), .pointer (some ⟨bt, 0, none⟩), .pointer (some ⟨bs, 0, none⟩)] 443
theorem Bf : aC Tryz.prog W0 305 [] R (fun v B => ∃ b, v = .pointer (some ⟨b, 0, none⟩) ∧ B = pt b (aw [eG, .bool true] 512) :: R) := by
 refine aF func305 ntmps305 rfl rfl ?_
 refine ae (ah (aa rfl (ai rfl) (ag (ab (ae (ah (aa rfl (bQ underlying512 zeroValue512 (aE sizeOf510 (aE cB bP)) (bn rfl cB rfl rfl (Nat.le_of_ble_eq_true rfl) SetL.eq bO)) ?_)))))))
 refine am rfl (bL rfl) ?_
 rintro _ _ ⟨b1, rfl, rfl⟩
 refine aa rfl (ai rfl) (ag (ab (av (au (.inl rfl) (.cons (ak rfl) .nil) ?_))))
 exact ⟨_, ⟨_, rfl, rfl⟩, ent_refl⟩
theorem Bg (W0 : World) (R : List HP) (pv ps pm d room : Nat) (hr : room ≤ 4) :
    aC Tryz.prog W0 209 [.pointer (some ⟨pv, 0, none⟩), .int .i64 room] (pt pv (i5 ps pm d) :: R)
      (fun v B => ∃ bm bt bs, v = .tuple #[.pointer (some ⟨bm, 0, none⟩), .int .i64 0] ∧ B = pt bm (uY pv bt bs) :: e7 bt ([], [.int .i64 room, .int .i64 0, .bool true]) :: pt bs (aw [eG, .bool true] 512) :: pt pv (i5 ps pm d) :: R) := by
 refine aF func209 ntmps209 rfl rfl ?_
 refine ae (ah (aa rfl (ai rfl) (aa rfl (ai rfl) (ag (ab (ae (ae (ah (aa rfl (ac rfl) (am rfl (bz call143 rfl (zA pv ps pm d)) ?_))))))))))
 rintro _ B_ ⟨rfl, hB_⟩
 obtain rfl := hB_.symm
 refine aa rfl (dl Cy rfl rfl) (ag (ab ?_))
 refine ax rfl ?_ ?_
 intro c1
 exact absurd c1 (by simp)
 intro c1
 refine aB (ab (ae (ah (aa rfl (ac rfl) (am rfl (aS call304 rfl (Be W0 _ room hr)) ?_)))))
 rintro _ B_ ⟨bt, rfl, hB_⟩
 subst hB_
 refine aa rfl (ac rfl) (aa rfl (aZ rfl rfl) (aa rfl (aZ rfl rfl) (aa rfl (ai rfl) (aa rfl (ai rfl) (ag (ab (ae (ae (ah (aa rfl (ac rfl) (aa rfl (co rfl rfl) (ag (ab ?_)))))))))))))
 refine ax rfl ?_ ?_
 intro c4
 exact absurd rfl c4
 intro c4
 refine aB (ab (ae (ah (aa rfl (ac rfl) (aa rfl (ac rfl) (am rfl (aS call305 rfl (Bf)) ?_))))))
 rintro _ B_ ⟨bs, rfl, hB_⟩
 subst hB_
 refine aa rfl (bQ underlying443 zeroValue443 (aE oJ (aE sizeOf440 (aE sizeOf441 bP))) (bn rfl oJ rfl rfl (Nat.le_of_ble_eq_true rfl) SetL.eq (bn rfl sizeOf440 rfl rfl (Nat.le_of_ble_eq_true rfl) SetL.eq (bn rfl sizeOf441 rfl rfl (Nat.le_of_ble_eq_true rfl) SetL.eq bO)))) ?_
 refine am rfl (bL rfl) ?_
 rintro _ _ ⟨bm, rfl, rfl⟩
 refine aa rfl (ai rfl) (aa rfl (ai rfl) (ag (ab (av (au (.inl rfl) (.cons (ak rfl) (.cons (ak rfl) .nil)) ?_)))))
 exact ⟨_, ⟨bm, bt, bs, rfl, rfl⟩, inferInstance⟩
abbrev pV (b : Nat) : Value := .pointer (some ⟨b, 0, none⟩)
structure Bd where
  r : Nat
  c : Nat
  m : Nat
  v : Nat
  t : Nat
@[reducible] def kd (x : Bd) (qs : List Nat) : List Value := [pV x.r, pV x.c, pV x.m] ++ (qs.map pV ++ List.replicate (3 - qs.length) (.pointer none)) ++ [pV x.v, pV x.t, .bool false, .int .u32 0, .int .u32 0, .int .u32 0, .int .u32 0]
theorem Bh {x : Bd} {q : Nat} : ∀ {qs : List Nat}, qs.length < 3 → (kd x qs).set (3 + qs.length * 1) (pV q) = kd x (qs ++ [q])
 | [], _ => rfl
 | [a], _ => rfl
 | [a, b], _ => rfl
theorem Bi {x : Bd} {qs : List Nat} (h : qs.length ≤ 3) : (kd x qs).length = 13 := by
 simp [kd]; omega
abbrev o9 (x : Bd) (i bt bs pv : Nat) (T : List HP) : List HP := pt x.r (dh (List.replicate 16 0) 0) :: pt x.c (uQ i) :: pt x.m (uY pv bt bs) :: e7 bt ([], [.int .i64 ((4 : Nat) : Int), .int .i64 0, .bool true]) :: pt bs (aw [eG, .bool true] 512) :: pt x.v ml :: pt x.t uR :: T
theorem uZ {l : List HP} {x : HP} {R : List HP} : Ent (x :: kH 6 (bG l) :: R) (kH 6 (bG (l ++ [x])) :: R) :=
  (Ent.cons (ip (A := l) (R := R))).trans ((Ent.ofPerm (by
    show (x :: (l ++ R)).Perm ((l ++ [x]) ++ R)
    rw [List.append_assoc]
    exact (List.perm_middle).symm)).trans g8)
@[reducible] def v2 (x : Bd) (q0 q1 q2 : Nat) : List Value := [pV x.r, pV x.c, pV x.m, pV q0, pV q1, pV q2, pV x.v, pV x.t, .bool false, .int .u32 0, .int .u32 0, .int .u32 0, .int .u32 0]
theorem Bj (W0 : World) (R : List HP) (i pv ps pm d : Nat) (hi : i < 4) :
    aC Tryz.prog W0 91 [.int .i64 i, pV pv] (pt pv (i5 ps pm d) :: R)
      (fun v B => ∃ x bt bs q0 q1 q2, v = .tuple #[.agg (v2 x q0 q1 q2).toArray, .int .i64 0] ∧ B = o9 x i bt bs pv (kH 6 (bG [pt q0 (qO true i6), pt q1 (qO true i6), pt q2 (qO true i6)]) :: pt pv (i5 ps pm d) :: R)) := by
 refine aF func91 ntmps91 rfl rfl ?_
 refine ae (ah (am rfl (dd rM) ?_))
 rintro _ _ ⟨b4, rfl, rfl⟩
 refine aa rfl (ai rfl) (ag (ab (ae (ah (aa rfl (ac rfl) (am rfl (aS call208 rfl (AY i hi)) ?_))))))
 rintro _ B_ ⟨cb, rfl, hB_⟩
 obtain rfl := hB_.symm
 refine aa rfl (ac rfl) (aa rfl (aZ rfl rfl) (aa rfl (aZ rfl rfl) (aa rfl (ai rfl) (aa rfl (ai rfl) (ag (ab (ae (ae (ah (aa rfl (ac rfl) (aa rfl (co rfl rfl) (ag (ab ?_)))))))))))))
 refine ax rfl ?_ ?_
 intro c2
 exact absurd c2 (by decide)
 intro c2
 refine aB (ab (ae (ah (aa rfl (ac rfl) ?_))))
 refine am rfl (bz call209 rfl (Bg W0 _ pv ps pm d 4 (by decide))) ?_
 rintro _ B_ ⟨bm, bt, bs, rfl, hB_⟩
 obtain rfl := hB_.symm
 refine aa rfl (ac rfl) (aa rfl (aZ rfl rfl) (aa rfl (aZ rfl rfl) (aa rfl (ai rfl) (aa rfl (ai rfl) (ag (ab (ae (ae (ah (aa rfl (ac rfl) (aa rfl (co rfl rfl) (ag (ab ?_)))))))))))))
 refine ax rfl ?_ ?_
 intro c5
 exact absurd c5 (by decide)
 intro c5
 refine aB (ab (ae (ah (am rfl (aS call210 rfl (AT)) ?_))))
 rintro _ B_ ⟨rb, rfl, hB_⟩
 obtain rfl := hB_.symm
 refine aa rfl (ac rfl) (aa rfl (ac rfl) (am rfl (aS call211 rfl (AZ)) ?_))
 rintro _ B_ ⟨vb, rfl, hB_⟩
 obtain rfl := hB_.symm
 refine am rfl (aS call212 rfl (B1)) ?_
 rintro _ B_ ⟨tb, rfl, hB_⟩
 obtain rfl := hB_.symm
 refine aa rfl (bQ jg rM (aE jh (aE sizeOf131 (aE sizeOf132 (aE sizeOf134 (aE sizeOf135 (aE sizeOf136 (aE cB (aE iV bP)))))))) (bn rfl jh rfl rfl (Nat.le_of_ble_eq_true rfl) SetL.eq (bn rfl sizeOf131 rfl rfl (Nat.le_of_ble_eq_true rfl) SetL.eq (bn rfl sizeOf132 rfl rfl (Nat.le_of_ble_eq_true rfl) SetL.eq (bn rfl sizeOf135 rfl rfl (Nat.le_of_ble_eq_true rfl) SetL.eq (bn rfl sizeOf136 rfl rfl (Nat.le_of_ble_eq_true rfl) SetL.eq bO)))))) ?_
 refine am rfl (dd rM) ?_
 rintro _ _ ⟨b9, rfl, rfl⟩
 refine bE (cK gy rfl rfl rfl rfl rfl) ?_
 rintro _ _ rfl
 refine ag (ab (ae (ae (ah (aa rfl (ac rfl) (ag (ab (b0 ?_))))))))
 refine cC (fun qs : List Nat => qs.length ≤ 3) (fun qs => [(4, pV b4), (9, pV b9), (35, .int .i64 qs.length)]) (fun qs => pt b9 (aw (kd ⟨rb, cb, bm, vb, tb⟩ qs) 138) :: kH 6 (bG (qs.map fun q => pt q (qO true i6))) :: pt b4 (aw [.pointer none, .pointer none, .pointer none, .pointer none, .pointer none, .pointer none, .pointer none, .pointer none, .bool false, .int .u32 0, .int .u32 0, .int .u32 0, .int .u32 0] 138) :: o9 ⟨rb, cb, bm, vb, tb⟩ i bt bs pv (pt pv (i5 ps pm d) :: R)) (fun qs => 3 - qs.length) [] ?_ ?_ ?_ ?_
 exact Nat.zero_le _
 · repeat (first | exact aX | refine aU rfl ?_)
 refine Ent.trans (B := pt b9 (aw (kd ⟨rb, cb, bm, vb, tb⟩ []) 138) :: pt b4 (aw [.pointer none, .pointer none, .pointer none, .pointer none, .pointer none, .pointer none, .pointer none, .pointer none, .bool false, .int .u32 0, .int .u32 0, .int .u32 0, .int .u32 0] 138) :: o9 ⟨rb, cb, bm, vb, tb⟩ i bt bs pv (pt pv (i5 ps pm d) :: R)) ?_ ?_
 rw [show kd ⟨rb, cb, bm, vb, tb⟩ [] = [pV rb, pV cb, pV bm, .pointer none, .pointer none, .pointer none, pV vb, pV tb, .bool false, .int .u32 0, .int .u32 0, .int .u32 0, .int .u32 0] from rfl]
 exact inferInstance
 exact Ent.cons (g8 (A := []))
 intro qs hq
 refine ae (ah (aa rfl (aY rfl rfl) (ag (ab (ae ?_)))))
 refine ax rfl ?_ ?_
 intro c9
 refine aB (ab (ae (b0 (ae (ah (aa rfl (ac rfl) (aa rfl (ai rfl) (ag (ab ?_)))))))))
 have hq3 : qs.length < 3 := by omega
 refine ah (aa rfl (ac rfl) (am rfl (aS call213 rfl (zR)) ?_))
 rintro _ B_ ⟨q, rfl, hB_⟩
 obtain rfl := hB_.symm
 refine aa rfl (ao rfl jg rfl sizeOf134 rfl (by first | exact Nat.zero_add _ | rfl)) ?_
 refine aa rfl (fk underlying134 sizeOf133 rfl rfl rfl hq3 (by first | exact Nat.zero_add _ | rfl)) ?_
 refine bE (ce sizeOf133 rfl rfl rfl (by rw [Bi hq]; omega) (Bh hq3)) ?_
 rintro _ _ rfl
 refine ag (bF (ab (ah ?_)))
 refine aa rfl (bC rfl rfl (by first | exact aW (by omega) | rfl)) ?_
 refine aa rfl (ac rfl) (ag (ab ?_))
 refine cp (qs ++ [q]) ?_ ?_ ?_ ?_
 show (qs ++ [q]).length ≤ 3; simp; omega
 show 3 - (qs ++ [q]).length < 3 - qs.length; simp; omega
 · rw [show ((qs ++ [q]).length : Int) = ((qs.length : Nat) : Int) + 1 by simp]
   repeat (first | exact aX | refine aU rfl ?_)
 rw [List.map_append]
 exact Ent.cons uZ
 intro c9
 refine bX (bi (bi (bZ (ab (ae ?_)))))
 have hq3 : qs.length = 3 := by omega
 obtain ⟨q0, q1, q2, rfl⟩ : ∃ q0 q1 q2, qs = [q0, q1, q2] := by
  match qs, hq3 with
  | [a, b, c], _ => exact ⟨a, b, c, rfl⟩
 refine ah (aa rfl (cu wa gy rfl rfl) ?_)
 refine bE (cK gy rfl rfl rfl rfl rfl) ?_
 rintro _ _ rfl
 refine aa rfl (ai rfl) (ag (ab (av (au (.inl rfl) (.cons (fj wa gy rfl rfl) (.cons (ak rfl) .nil)) ?_))))
 refine ⟨_, ⟨⟨rb, cb, bm, vb, tb⟩, bt, bs, q0, q1, q2, rfl, rfl⟩, ?_⟩
 rw [show [q0, q1, q2].map (fun q => pt q (qO true i6)) = [pt q0 (qO true i6), pt q1 (qO true i6), pt q2 (qO true i6)] from rfl]
 exact inferInstance
def ke (r : Int × Int) (i : Int) : Int := if i = r.1 then 3 else if i = r.2 then 1 else 0
theorem Bl (W0 : World) (R : List HP) (r : Int × Int) (i : Int) :
    aC Tryz.prog W0 205 [.agg (dS r).toArray, .int .i64 i] R (fun v B => v = .int .i64 (ke r i) ∧ B = R) := by
 refine aF func205 ntmps205 rfl rfl ?_
 refine ae (ah (am rfl (bL rfl) ?_))
 rintro _ _ ⟨b2, rfl, rfl⟩
 refine aa rfl (ai rfl) (ag (ab (ae (ae (ah (aa rfl (ac rfl) (ag (ab (b0 (ae (ah ?_)))))))))))
 refine aa rfl (ao rfl fw rfl az rfl (by first | exact Nat.zero_add _ | rfl)) ?_
 refine aa rfl (ap aM rfl (aA rfl)) ?_
 refine aa rfl (cz rfl rfl) (aa rfl (ai rfl) (ag (ab ?_)))
 refine ax rfl ?_ ?_
 intro c2
 refine ae (ah (aa rfl (ai rfl) (ag (ab (av (bj (aD (au (.inl rfl) (.cons (ak rfl) .nil) ?_))))))))
 rw [ke, if_pos (by simpa using c2)]
 exact ⟨_, ⟨rfl, rfl⟩, inferInstance⟩
 intro c2
 refine ae (ah ?_)
 refine aa rfl (ao rfl fw rfl az rfl (by first | exact Nat.zero_add _ | rfl)) ?_
 refine aa rfl (ap aM rfl (aA rfl)) ?_
 refine aa rfl (cz rfl rfl) (aa rfl (ai rfl) (ag (ab ?_)))
 refine ax rfl ?_ ?_
 intro c4
 refine ae (ah (aa rfl (ai rfl) (ag (ab (av (bj (aD (au (.inl rfl) (.cons (ak rfl) .nil) ?_))))))))
 rw [ke, if_neg (by simpa using c2), if_pos (by simpa using c4)]
 exact ⟨_, ⟨rfl, rfl⟩, inferInstance⟩
 intro c4
 refine aB (bF (ab (ae (ah (aa rfl (ai rfl) (ag (ab (av (au (.inl rfl) (.cons (ak rfl) .nil) ?_)))))))))
 rw [ke, if_neg (by simpa using c2), if_neg (by simpa using c4)]
 exact ⟨_, ⟨rfl, rfl⟩, inferInstance⟩
def oc (c : Cfg) (k : Nat) : Int × Int := c.nl.getD k (0, 0)
def ia (c : Cfg) (i : Int) : Nat → List Pl → List Pl
 | 0, pg => pg
 | k + 1, pg => if ke (oc c k) i = 0 then ia c i k pg else e9 (ia c i k pg) ((8 + k : Nat) : Int) (i9 c k, ke (oc c k) i)
theorem od {c : Cfg} {i : Int} {pg : List Pl} (h : Pgs pg) : ∀ k, Pgs (ia c i k pg)
 | 0 => h
 | k + 1 => by
  rw [ia]; split
  exact od h k
  exact np (od h k)
theorem Bm (W0 : World) (R : List HP) (c : Cfg) (h : CfK W0 c) (i : Int) (pm : Nat) (pg : List Pl) (hp : Pgs pg) (hn : c.nl.length ≤ 4) :
    aC Tryz.prog W0 89 [.agg (cj c).toArray, .int .i64 i, pV pm] (pt pm (dv pg) :: R) (fun v B => v = .tuple #[] ∧ B = pt pm (dv (ia c i c.nl.length pg)) :: R) := by
 refine aF func89 ntmps89 rfl rfl ?_
 refine ae (ah (am rfl (bL rfl) ?_))
 rintro _ _ ⟨b3, rfl, rfl⟩
 refine ag (ab (ae (ah ?_)))
 refine aa rfl (ao rfl bw rfl fg rfl (by first | exact Nat.zero_add _ | rfl)) ?_
 refine aa rfl (ap fZ rfl (aA rfl)) ?_
 refine aa rfl (bq fv rfl) (aa rfl (ac rfl) (ag (ab (b0 ?_))))
 refine cC (fun k : Nat => k ≤ c.nl.length) (fun k => [(1, .int .i64 i), (2, pV pm), (3, pV b3), (10, .slice c.na c.nl.length c.nc), (11, .int .i64 (c.nl.length : Nat)), (12, .int .i64 k)]) (fun k => pt b3 (d7 c) :: pt pm (dv (ia c i k pg)) :: R) (fun k => c.nl.length - k) 0 ?_ ?_ ?_ ?_
 exact Nat.zero_le _
 · repeat (first | exact aX | refine aU rfl ?_)
 rw [show ia c i 0 pg = pg from rfl]
 exact inferInstance
 intro k hk
 refine ae (ah (aa rfl (aY rfl rfl) (ag (ab (ae ?_)))))
 refine ax rfl ?_ ?_
 intro c2
 refine aB (ab ?_)
 refine gM (fun _ : Unit => k < c.nl.length) (fun _ => [(1, .int .i64 i), (2, pV pm), (3, pV b3), (10, .slice c.na c.nl.length c.nc), (11, .int .i64 (c.nl.length : Nat)), (12, .int .i64 k)]) (fun _ => pt b3 (d7 c) :: pt pm (dv (ia c i (k + 1) pg)) :: R) ?_ ?_
 skip
 refine b0 (ae ?_)
 have hk1 : k < c.nl.length := by omega
 obtain ⟨g, o, hga, hc⟩ := (h.ok.n []).at_ hk1
 obtain ⟨x, hx⟩ : ∃ x, c.nl[k] = x := ⟨_, rfl⟩
 rw [hx] at hc
 have hA : oc c k = x := by simp [oc, List.getD, hk1, hx]
 have hpk := od (c := c) (i := i) hp k
 refine ah (aa rfl (ac rfl) ?_)
 refine aa rfl (ec fv gt rfl hga rfl rfl hk1 (by first | exact Nat.zero_add _ | rfl)) ?_
 refine aa rfl (cQ oC gt rfl hc.weak rfl) ?_
 refine am rfl (dd mz) ?_
 rintro _ _ ⟨b7, rfl, rfl⟩
 refine aa rfl (ai rfl) (bE (cK gt rfl rfl rfl rfl rfl) ?_)
 rintro _ _ rfl
 refine ag (ab (ae (ah (aa rfl (cu oC gt rfl rfl) ?_))))
 refine aa rfl (ac rfl) (am rfl (aS call205 rfl (Bl W0 _ x i)) ?_)
 rintro _ B_ ⟨rfl, hB_⟩
 obtain rfl := hB_.symm
 refine aa rfl (ai rfl) (ag (ab (ae (ah (aa rfl (ac rfl) (aa rfl (co rfl rfl) (ag (ab ?_))))))))
 refine ax rfl ?_ ?_
 intro c5
 refine ah (aa rfl (ac rfl) (aa rfl (ac rfl) ?_))
 refine aa rfl (bC rfl rfl (by rw [aW (by omega)]; omega : IntKind.wrap .i64 (8 + (k : Int)) = ((8 + k : Nat) : Int))) ?_
 refine aa rfl (cu cm bS rfl rfl) ?_
 refine aa rfl (ac rfl) (am rfl (aS call206 rfl (AK W0 _ c h k)) ?_)
 rintro _ B_ ⟨rfl, hB_⟩
 obtain rfl := hB_.symm
 refine aa rfl (ac rfl) (aa rfl (bQ fY iF (aE az (aE az bP)) (bn rfl az rfl rfl (Nat.le_of_ble_eq_true rfl) SetL.eq (bn rfl az rfl rfl (Nat.le_of_ble_eq_true rfl) SetL.eq bO))) ?_)
 refine am rfl (bz call204 rfl (sY pm (ia c i k pg) hpk (8 + k : Nat) (i9 c k, ke x i))) ?_
 rintro _ B_ ⟨rfl, hB_⟩
 obtain rfl := hB_.symm
 refine ag (bF (ab ?_))
 refine dK () ?_ ?_ ?_
 exact hk1
 · repeat (first | exact aX | refine aU rfl ?_)
 rw [ia, hA, if_neg (by simpa using c5)]
 exact inferInstance
 intro c5
 refine aB (bF (ab ?_))
 refine dK () ?_ ?_ ?_
 exact hk1
 · repeat (first | exact aX | refine aU rfl ?_)
 rw [ia, hA, if_pos (by simpa using c5)]
 exact inferInstance
 intro _ hk1
 refine ah ?_
 refine aa rfl (bC rfl rfl (by first | exact aW (by omega) | rfl)) ?_
 refine aa rfl (ac rfl) (ag (ab ?_))
 refine cp (k + 1) ?_ ?_ ?_ ?_
 omega
 omega
 · repeat (first | exact aX | refine aU rfl ?_)
 exact inferInstance
 intro c2
 refine bX (bi (bi (bZ (au (.inr rfl) .nil ?_))))
 obtain rfl : k = c.nl.length := by omega
 exact ⟨_, ⟨rfl, rfl⟩, inferInstance⟩
theorem Bn {ws : List Nat} {n : Nat} (h : n ≤ 8) : bH (bH ws 8) n = bH ws n := by
 rw [bH, bH, bH, List.take_take, Nat.min_eq_left (by omega)]
abbrev gS : List Pl := List.replicate 12 (0, 0)
theorem oe : Pgs gS := ⟨rfl, fun n hn h => absurd (by
  have : n = 0 ∨ n = 1 ∨ n = 2 ∨ n = 3 ∨ n = 4 ∨ n = 5 ∨ n = 6 ∨ n = 7 ∨ n = 8 ∨ n = 9 ∨ n = 10 ∨ n = 11 := by omega
  rcases this with rfl | rfl | rfl | rfl | rfl | rfl | rfl | rfl | rfl | rfl | rfl | rfl <;> rfl) h⟩
theorem v3 : jU gS 0 8 := fun i _ hi => by
 have : i = 0 ∨ i = 1 ∨ i = 2 ∨ i = 3 ∨ i = 4 ∨ i = 5 ∨ i = 6 ∨ i = 7 := by omega
 rcases this with rfl | rfl | rfl | rfl | rfl | rfl | rfl | rfl <;> decide
@[reducible] def oi (x : Bd) (q0 q1 q2 : Nat) (c : Cfg) (i : Nat) (wv : Value) (pb pv bx tr : Nat) : List Value :=
  [pV x.r, pV x.c, pV x.m, pV q0, pV q1, pV q2, pV x.v, pV x.t, .bool false, .int .u32 0, .int .u32 0, .int .u32 0, .int .u32 0] ++ cj c ++ [.int .i64 i, wv, pV pb, pV pv, pV bx, pV tr, .int .i64 0]
theorem Bo {S : World → Prop} {N : FSz} {e : bK} {o0 o1 o2 o3 o4 o5 o6 o7 : Operand} {x : Bd} {q0 q1 q2 i pb pv bx tr : Nat} {c : Cfg} {wv : Value} (hw : wv.oneCell' = true) (h0 : ev e o0 = some (.agg (v2 x q0 q1 q2).toArray)) (h1 : ev e o1 = some (.agg (cj c).toArray)) (h2 : ev e o2 = some (.int .i64 i)) (h3 : ev e o3 = some wv) (h4 : ev e o4 = some (pV pb)) (h5 : ev e o5 = some (pV pv)) (h6 : ev e o6 = some (pV bx)) (h7 : ev e o7 = some (pV tr)) :
    cn Tryz.prog S N e (.build 142 #[(0, o0), (1, o1), (2, o2), (3, o3), (4, o4), (5, o5), (6, o6), (7, o7)]) (.agg (oi x q0 q1 q2 c i wv pb pv bx tr).toArray) :=
  bQ (l' := oi x q0 q1 q2 c i wv pb pv bx tr) im zeroValue142 (aE gy (aE bS (aE az (aE mF (aE mM (aE oJ (aE sizeOf140 (aE rN (aE az bP)))))))))
    (it (l' := [pV x.r, pV x.c, pV x.m, pV q0, pV q1, pV q2, pV x.v, pV x.t, .bool false, .int .u32 0, .int .u32 0, .int .u32 0, .int .u32 0, .int .i64 0, .slice none 0 0, .slice none 0 0, .slice none 0 0, .slice none 0 0, .slice none 0 0, .int .i64 0, .int .i64 0, .int .i64 0, .slice none 0 0, .pointer none, .pointer none, .pointer none, .pointer none, .int .i64 0]) rfl gy h0 rfl (Nat.le_of_ble_eq_true rfl) rfl
    (it (l' := [pV x.r, pV x.c, pV x.m, pV q0, pV q1, pV q2, pV x.v, pV x.t, .bool false, .int .u32 0, .int .u32 0, .int .u32 0, .int .u32 0, .int .i64 c.cats, .slice c.ga c.gl.length c.gc, .slice c.ra c.rl.length c.rc, .slice c.pa c.pl.length c.pc, .slice c.na c.nl.length c.nc, .slice c.sa c.sl.length c.sc, .int .i64 c.gate, .int .i64 c.quota, .int .i64 0, .slice none 0 0, .pointer none, .pointer none, .pointer none, .pointer none, .int .i64 0]) rfl bS h1 rfl (Nat.le_of_ble_eq_true rfl) rfl
    (bn (l' := [pV x.r, pV x.c, pV x.m, pV q0, pV q1, pV q2, pV x.v, pV x.t, .bool false, .int .u32 0, .int .u32 0, .int .u32 0, .int .u32 0, .int .i64 c.cats, .slice c.ga c.gl.length c.gc, .slice c.ra c.rl.length c.rc, .slice c.pa c.pl.length c.pc, .slice c.na c.nl.length c.nc, .slice c.sa c.sl.length c.sc, .int .i64 c.gate, .int .i64 c.quota, .int .i64 i, .slice none 0 0, .pointer none, .pointer none, .pointer none, .pointer none, .int .i64 0]) rfl az h2 rfl (Nat.le_of_ble_eq_true rfl) rfl
    (bn (l' := [pV x.r, pV x.c, pV x.m, pV q0, pV q1, pV q2, pV x.v, pV x.t, .bool false, .int .u32 0, .int .u32 0, .int .u32 0, .int .u32 0, .int .i64 c.cats, .slice c.ga c.gl.length c.gc, .slice c.ra c.rl.length c.rc, .slice c.pa c.pl.length c.pc, .slice c.na c.nl.length c.nc, .slice c.sa c.sl.length c.sc, .int .i64 c.gate, .int .i64 c.quota, .int .i64 i, wv, .pointer none, .pointer none, .pointer none, .pointer none, .int .i64 0]) rfl mF h3 hw (Nat.le_of_ble_eq_true rfl) rfl
    (bn (l' := [pV x.r, pV x.c, pV x.m, pV q0, pV q1, pV q2, pV x.v, pV x.t, .bool false, .int .u32 0, .int .u32 0, .int .u32 0, .int .u32 0, .int .i64 c.cats, .slice c.ga c.gl.length c.gc, .slice c.ra c.rl.length c.rc, .slice c.pa c.pl.length c.pc, .slice c.na c.nl.length c.nc, .slice c.sa c.sl.length c.sc, .int .i64 c.gate, .int .i64 c.quota, .int .i64 i, wv, pV pb, .pointer none, .pointer none, .pointer none, .int .i64 0]) rfl mM h4 rfl (Nat.le_of_ble_eq_true rfl) rfl
    (bn (l' := [pV x.r, pV x.c, pV x.m, pV q0, pV q1, pV q2, pV x.v, pV x.t, .bool false, .int .u32 0, .int .u32 0, .int .u32 0, .int .u32 0, .int .i64 c.cats, .slice c.ga c.gl.length c.gc, .slice c.ra c.rl.length c.rc, .slice c.pa c.pl.length c.pc, .slice c.na c.nl.length c.nc, .slice c.sa c.sl.length c.sc, .int .i64 c.gate, .int .i64 c.quota, .int .i64 i, wv, pV pb, pV pv, .pointer none, .pointer none, .int .i64 0]) rfl oJ h5 rfl (Nat.le_of_ble_eq_true rfl) rfl
    (bn (l' := [pV x.r, pV x.c, pV x.m, pV q0, pV q1, pV q2, pV x.v, pV x.t, .bool false, .int .u32 0, .int .u32 0, .int .u32 0, .int .u32 0, .int .i64 c.cats, .slice c.ga c.gl.length c.gc, .slice c.ra c.rl.length c.rc, .slice c.pa c.pl.length c.pc, .slice c.na c.nl.length c.nc, .slice c.sa c.sl.length c.sc, .int .i64 c.gate, .int .i64 c.quota, .int .i64 i, wv, pV pb, pV pv, pV bx, .pointer none, .int .i64 0]) rfl sizeOf140 h6 rfl (Nat.le_of_ble_eq_true rfl) rfl
    (bn (l' := [pV x.r, pV x.c, pV x.m, pV q0, pV q1, pV q2, pV x.v, pV x.t, .bool false, .int .u32 0, .int .u32 0, .int .u32 0, .int .u32 0, .int .i64 c.cats, .slice c.ga c.gl.length c.gc, .slice c.ra c.rl.length c.rc, .slice c.pa c.pl.length c.pc, .slice c.na c.nl.length c.nc, .slice c.sa c.sl.length c.sc, .int .i64 c.gate, .int .i64 c.quota, .int .i64 i, wv, pV pb, pV pv, pV bx, pV tr, .int .i64 0]) rfl rN h7 rfl (Nat.le_of_ble_eq_true rfl) rfl
    bO))))))))
def eu (c : Cfg) (i : Nat) (ws : List Nat) (fr : List bW) (po : Po) : Im := cZ i (bH ws (cM c i).2.1.toNat) (cM c i).2.1.toNat ⟨fr, po, gS⟩
theorem Bp (W0 : World) (R : List HP) (c : Cfg) (h : CfK W0 c) (hr : rt c = true) (i : Nat) (hi : i < c.gl.length) (ps pb : Nat) (fr : List bW) (po : Po) (hF : eX fr) (hP : PoOk po) (hl : po.length = fr.length) (h0 : 0 < fr.length) (hfre : (cM c i).2.1 ≤ ((bJ po i).length : Int))
    (a : Option Addr) (cap : Nat) (ws : List Nat) (hs : ∀ A, cq (bI W0 A) a 1 i7 ws) (hb : ∀ y ∈ ws, y < 4294967296) (hn : ws.length < 9223372036854775808) :
    aC Tryz.prog W0 33 [.agg (cj c).toArray, .int .i64 i, pV ps, pV pb, .slice a ws.length cap] (d6 pb (ps, po) :: cy ps fr :: R)
      (fun v B => ∃ gb x bt bs q0 q1 q2 wg pv pm bx tr, v = .tuple #[pV gb, .int .i64 0] ∧
        B = pt gb (aw (oi x q0 q1 q2 c i (.slice (some ⟨wg, 0, none⟩) (bH ws 8).length (bH ws 8).length) pb pv bx tr) 142) :: o9 x i bt bs pv (kH 6 (bG [pt q0 (qO true i6), pt q1 (qO true i6), pt q2 (qO true i6)]) :: pt pv (i5 ps pm 0) :: pt bx uS :: dU tr [] :: pt wg (aw ((bH ws 8).map wV) 42) :: pt pm (dv (ia c i c.nl.length (eu c i ws fr po).pg)) :: d6 pb (ps, (eu c i ws fr po).po) :: cy ps (eu c i ws fr po).fr :: R)) := by
 have hck : gn c = 0 := of_decide_eq_true hr
 have hR := fH hr
 have hg4 := hR.g4
 have hgs := hR.gs i hi
 obtain ⟨g, o, hga, hc⟩ := (h.ok.g []).at_ hi
 obtain ⟨x, hx⟩ : ∃ x, c.gl[i] = x := ⟨_, rfl⟩
 have hA : cM c i = x := by simp [cM, List.getD, hi, hx]
 obtain ⟨n, hxn⟩ : ∃ n : Nat, x.2.1 = (n : Int) := ⟨x.2.1.toNat, by rw [hA] at hgs; omega⟩
 have hln : (cM c i).2.1.toNat = n := by rw [hA, hxn]; rfl
 have hlaid : eu c i ws fr po = cZ i (bH (bH ws 8) n) n ⟨fr, po, gS⟩ := by rw [eu, hln, Bn (by rw [hA] at hgs; omega)]
 rw [hlaid]
 rw [hx] at hc
 rw [hA, hxn] at hgs hfre
 have hok : ImOk ⟨fr, po, gS⟩ := ⟨hF, hP, oe, hl⟩
 have hok1 := jT (who := i) (words := bH (bH ws 8) n) (n := n) (by omega) hok
 have hcl := mf ws 8
 have hpo1 := hok1.len
 have hfr1 : 0 < (cZ i (bH (bH ws 8) n) n ⟨fr, po, gS⟩).fr.length := by
  have : ∀ k, (cZ i (bH (bH ws 8) n) k ⟨fr, po, gS⟩).fr.length = fr.length := fun k => by
   induction k with
   | zero => rfl
   | succ k ih =>
    rw [cZ, fm]
    split
    rw [(kP (jT (by omega) hok).fr).2]; exact ih
    exact ih
  rw [this]; exact h0
 refine aF func33 ntmps33 rfl rfl ?_
 refine ae (ah (am rfl (bL rfl) ?_))
 rintro _ _ ⟨b5, rfl, rfl⟩
 refine aa rfl (ai rfl) (aa rfl (ai rfl) (ag (ab (ae (ae (ah (aa rfl (cu cm bS rfl rfl) ?_)))))))
 refine am rfl (aS vM rfl (qq W0 _ c h.ok)) ?_
 rintro _ B_ ⟨at_, rfl, hB_⟩
 obtain rfl := hB_.symm
 rw [hck]
 refine aa rfl (ac rfl) (aa rfl (aZ rfl rfl) (aa rfl (aZ rfl rfl) (aa rfl (ai rfl) (aa rfl (ai rfl) (ag (ab (ae (ah (aa rfl (ac rfl) (aa rfl (co rfl rfl) (aa rfl (ac rfl) ?_)))))))))))
 refine bA rfl rfl rfl ?_ ?_
 intro g2_3
 exact absurd g2_3 (by decide)
 intro g2_3
 refine aa rfl (ac rfl) (ar rfl rfl (aa rfl (aY rfl rfl) (aa rfl (aJ rfl rfl) (aa rfl (ac rfl) ?_))))
 refine bA rfl rfl rfl ?_ ?_
 intro g2_7
 omega
 intro g2_7
 refine aa rfl (ac rfl) (ar rfl rfl ?_)
 refine aa rfl (ao rfl bw rfl du rfl (by first | exact Nat.zero_add _ | rfl)) ?_
 refine ar rfl rfl (aa rfl (ap dy rfl (aA rfl)) ?_)
 refine ar rfl rfl (aa rfl (bq dj rfl) (ar rfl rfl (aa rfl (cF rfl rfl) (aa rfl (aJ rfl rfl) (ag (ab ?_))))))
 refine ax rfl ?_ ?_
 intro c2
 omega
 intro c2
 refine aB (ab (ae (ah (am rfl (aS call85 rfl (xH)) ?_))))
 rintro _ B_ ⟨pm, rfl, hB_⟩
 obtain rfl := hB_.symm
 refine aa rfl (ai rfl) (ag (ab (ae (ae (ah (aa rfl (ac rfl) (am rfl (bz mu rfl (kO W0 _ ps fr)) ?_)))))))
 rintro _ B_ ⟨rfl, hB_⟩
 obtain rfl := hB_.symm
 refine aa rfl (cz rfl rfl) (aa rfl (ac rfl) ?_)
 refine bA rfl rfl rfl ?_ ?_
 intro g5_4
 omega
 intro g5_4
 refine aa rfl (ac rfl) (ar rfl rfl (aa rfl (dl vC rfl rfl) (aa rfl (aJ rfl rfl) (ag (ab ?_)))))
 refine ax rfl ?_ ?_
 intro c5
 cases c5
 intro c5
 refine aB (ab (ae (ah (aa rfl (ac rfl) ?_))))
 refine am rfl (aS call87 rfl (uk a cap 8 ws (hs _) (by decide) hn)) ?_
 rintro _ B_ ⟨wg, rfl, hB_⟩
 obtain rfl := hB_.symm
 refine aa rfl (ai rfl) (ag (ab (ae (ae (ah (aa rfl (ac rfl) (aa rfl (ac rfl) (aa rfl (ac rfl) (aa rfl (ac rfl) ?_)))))))))
 refine aa rfl (ao rfl bw rfl du rfl (by first | exact Nat.zero_add _ | rfl)) ?_
 refine aa rfl (ap dy rfl (aA rfl)) ?_
 refine aa rfl (ac rfl) ?_
 refine aa rfl (ec dj ej rfl hga rfl rfl hi (by first | exact Nat.zero_add _ | rfl)) ?_
 refine aa rfl (ao rfl dO rfl az rfl (by first | exact Nat.zero_add _ | rfl)) ?_
 refine aa rfl (ap aM rfl (hc.weak 1 _ (by rw [← hxn]; rfl : (dZ x)[1]? = some (.int .i64 (n : Int))))) ?_
 refine aa rfl (ac rfl) ?_
 refine am rfl (kG call88 rfl (A4 W0 _ pb ps pm i n ⟨fr, po, gS⟩ hok h0 (some ⟨wg, 0, none⟩) (bH ws 8).length (bH ws 8) (by omega) (by omega) (by omega) v3 (by show n ≤ (bJ po i).length; omega) (by intro A hA; exact (jk (b := wg) qG (qH _).symm).weak (k := hA)) (fun y hy => hb y (List.mem_of_mem_take hy)) (by omega))) ?_
 rintro _ B_ ⟨rfl, hB_⟩
 obtain rfl := hB_.symm
 refine aa rfl (ai rfl) (ag (ab (ae (ah (aa rfl (ac rfl) (aa rfl (co rfl rfl) (ag (ab ?_))))))))
 refine ax rfl ?_ ?_
 intro c9
 exact absurd c9 (by decide)
 intro c9
 refine aB (ab (ae (ah (aa rfl (cu cm bS rfl rfl) ?_))))
 refine aa rfl (ac rfl) (aa rfl (ac rfl) (am rfl (bz call89 rfl (Bm W0 _ c h i pm _ hok1.pg hR.nn)) ?_))
 rintro _ B_ ⟨rfl, hB_⟩
 obtain rfl := hB_.symm
 refine ag (ab (ae (ah (aa rfl (ac rfl) (aa rfl (ac rfl) (am rfl (gN call90 rfl (zy W0 _ ps pm _ _ (od hok1.pg _) hfr1)) ?_))))))
 rintro _ B_ ⟨pv, rfl, hB_⟩
 obtain rfl := hB_.symm
 refine aa rfl (ac rfl) (aa rfl (aZ rfl rfl) (aa rfl (aZ rfl rfl) (aa rfl (ai rfl) (aa rfl (ai rfl) (ag (ab (ae (ae (ah (aa rfl (ac rfl) (aa rfl (co rfl rfl) (ag (ab ?_)))))))))))))
 refine ax rfl ?_ ?_
 intro c13
 exact absurd c13 (by decide)
 intro c13
 refine aB (ab (ae (ah (aa rfl (ac rfl) (aa rfl (ac rfl) ?_)))))
 refine am rfl (bz call91 rfl (Bj W0 _ i pv ps pm 0 (by omega))) ?_
 rintro _ B_ ⟨x_, bt, bs, q0, q1, q2, rfl, hB_⟩
 obtain rfl := hB_.symm
 refine aa rfl (ac rfl) (aa rfl (aZ rfl rfl) (aa rfl (aZ rfl rfl) (am rfl (dd rM) ?_)))
 rintro _ _ ⟨b19, rfl, rfl⟩
 refine bE (cK gy rfl rfl rfl rfl rfl) ?_
 rintro _ _ rfl
 refine aa rfl (ai rfl) (ag (ab (ae (ae (ah (aa rfl (ac rfl) (aa rfl (co rfl rfl) (ag (ab ?_)))))))))
 refine ax rfl ?_ ?_
 intro c16
 exact absurd c16 (by decide)
 intro c16
 refine aB (ab (ae ?_))
 refine cY [(b19, 0, _), (b5, 0, _)] 12 cV rfl (aV (aV aK)) (fun hS => ?_)
 refine aj 0 rfl rfl (by kernel_rfl) (by kernel_rfl) (by kernel_rfl) rfl hS (cQ wa gy rfl (by first | exact dA (k := 0) rfl | exact dA (k := 1) rfl) rfl) ?_
 refine aj 1 rfl rfl (by kernel_rfl) (by kernel_rfl) (by kernel_rfl) rfl hS (cQ cm bS rfl (by first | exact dA (k := 0) rfl | exact dA (k := 1) rfl) rfl) ?_
 refine aj 2 rfl rfl (by kernel_rfl) (by kernel_rfl) (by kernel_rfl) rfl hS (ac rfl) ?_
 refine aj 3 rfl rfl (by kernel_rfl) (by kernel_rfl) (by kernel_rfl) rfl hS (ac rfl) ?_
 refine aj 4 rfl rfl (by kernel_rfl) (by kernel_rfl) (by kernel_rfl) rfl hS (ac rfl) ?_
 refine aj 5 rfl rfl (by kernel_rfl) (by kernel_rfl) (by kernel_rfl) rfl hS (ac rfl) ?_
 refine bB 6 (by kernel_rfl) rfl rfl (aS call92 rfl (B2)) rfl ?_; clear hS
 rintro _ B_ ⟨bx, rfl, hB_⟩
 obtain rfl := hB_.symm
 refine ⟨(aV (aV aK)), fun hS => ?_⟩
 refine bB 7 (by kernel_rfl) rfl rfl (aS call93 rfl (B5)) rfl ?_; clear hS
 rintro _ B_ ⟨tr, rfl, hB_⟩
 obtain rfl := hB_.symm
 refine ⟨(aV (aV aK)), fun hS => ?_⟩
 refine aj 8 rfl rfl (by kernel_rfl) (by kernel_rfl) (by kernel_rfl) rfl hS (Bo rfl rfl rfl rfl rfl rfl rfl rfl rfl) ?_
 refine bB 9 (by kernel_rfl) rfl rfl (bL rfl) rfl ?_; clear hS
 rintro _ _ ⟨gb, rfl, rfl⟩
 refine ⟨(aV (aV aK)), fun hS => ?_⟩
 refine aj 10 rfl rfl (by kernel_rfl) (by kernel_rfl) (by kernel_rfl) rfl hS (ai rfl) ?_
 refine aj 11 rfl rfl (by kernel_rfl) (by kernel_rfl) (by kernel_rfl) rfl hS (ai rfl) ?_
 refine cg (by kernel_rfl) ?_; clear hS
 refine ab (av (au (.inl rfl) (.cons (ak rfl) (.cons (ak rfl) .nil)) ?_))
 refine ⟨_, ⟨gb, x_, bt, bs, q0, q1, q2, wg, pv, pm, bx, tr, rfl, rfl⟩, inferInstance⟩
theorem qZ : ∀ (vs l : List Value) (i j : Nat), j < i → (setR l i vs)[j]? = l[j]?
 | [], l, i, j, h => rfl
 | v :: vs, l, i, j, h => by
  rw [setR, qZ vs _ _ _ (by omega), List.getElem?_set_ne (by omega)]
theorem v4 : ∀ (vs l : List Value) (i : Nat), (setR l i vs).length = l.length
 | [], l, i => rfl
 | v :: vs, l, i => by rw [setR, v4 vs, List.length_set]
structure RgC (i : Nat) (pv : Nat) (cs : List Value) : Prop where
  len : cs.length = 48
  ci : cs[8]? = some (.int .i64 i)
  cv : cs[13]? = some (pV pv)
theorem RgC.set {i pv : Nat} {cs : List Value} (h : RgC i pv cs) {k : Nat} {v : Value} (h1 : k ≠ 8) (h2 : k ≠ 13) : RgC i pv (cs.set k v) :=
  ⟨by rw [List.length_set]; exact h.len, by rw [List.getElem?_set_ne h1]; exact h.ci, by rw [List.getElem?_set_ne h2]; exact h.cv⟩
theorem RgC.setR {i pv : Nat} {cs : List Value} (h : RgC i pv cs) {k : Nat} {vs : List Value} (h1 : 13 < k) : RgC i pv (setR cs k vs) :=
  ⟨by rw [v4]; exact h.len, by rw [qZ _ _ _ _ (by omega)]; exact h.ci, by rw [qZ _ _ _ _ (by omega)]; exact h.cv⟩
section
variable {W0 : World} {N : FSz} {K : Act → World → Prop} {e : bK} {A R : List HP} {b : Nat} {l : List Value} {T : TypeId}
theorem kf [hk : Tk pt b A (aw l T) R] (p : List Value → Prop) (h : p l) (k : ∀ cs, p cs → aQ W0 N K e (pt b (aw cs T) :: R)) : aQ W0 N K e A := dP (r := pt) (b := b) (k l h)
end
theorem Bq (b i : Nat) : aC Tryz.prog W0 311 [pV b] (pt b (aw [.int .u32 0, .int .u32 0, .int .u32 0, .int .u32 0, .int .u32 0, .int .u32 0, .int .u32 0, .int .i64 i] 474) :: R)
    (fun v B => v = .tuple #[] ∧ B = pt b (aw [.int .u32 0, .int .u32 0, .int .u32 0, .int .u32 0, .int .u32 0, .int .u32 4, .int .u32 0, .int .i64 i] 474) :: R) := by
 refine aF func311 ntmps311 rfl rfl ?_
 refine ae (ah (aa rfl (ac rfl) (aa rfl (m6 w4 dz w3 rfl) ?_)))
 refine aa rfl (aH rfl) ?_
 refine aa rfl (ao rfl wc rfl kx rfl (by first | exact Nat.zero_add _ | rfl)) ?_
 refine bE (ir kx rfl rfl rfl rfl (Nat.le_of_ble_eq_true rfl) SetRL.eq) ?_
 rintro _ _ rfl
 refine ag (ab (ah (aa rfl (ac rfl) (aa rfl (aH rfl) ?_))))
 refine aa rfl (ao rfl wc rfl kx rfl (by first | exact Nat.zero_add _ | rfl)) ?_
 refine aa rfl (fk w4 dz rfl rfl rfl (by decide) (by first | exact Nat.zero_add _ | rfl)) ?_
 refine bE (ce dz rfl rfl rfl (Nat.le_of_ble_eq_true rfl) SetL.eq) ?_
 rintro _ _ rfl
 refine ag (au (.inr rfl) .nil ?_)
 exact ⟨_, ⟨rfl, rfl⟩, inferInstance⟩
theorem Br (i : Nat) (hi : i < 4) : aC Tryz.prog W0 215 [.int .i64 i] R (fun v B => ∃ b, v = .tuple #[pV b, .int .i64 0] ∧ B = pt b (aw [.int .u32 0, .int .u32 0, .int .u32 0, .int .u32 0, .int .u32 0, .int .u32 4, .int .u32 0, .int .i64 i] 474) :: R) := by
 refine aF func215 ntmps215 rfl rfl ?_
 refine ae (ah (aa rfl (ai rfl) (aa rfl (ai rfl) (ag (ab (ae (ae (ah (aa rfl (ac rfl) (aa rfl (aY rfl rfl) (aa rfl (ac rfl) ?_)))))))))))
 refine bA rfl rfl rfl ?_ ?_
 intro g1_3
 omega
 intro g1_3
 refine aa rfl (ac rfl) (ar rfl rfl (aa rfl (cF rfl rfl) (aa rfl (aJ rfl rfl) (ag (ab ?_)))))
 refine ax rfl ?_ ?_
 intro c1
 omega
 intro c1
 refine aB (ab (ae (ah (aa rfl (ac rfl) (aa rfl (bQ wc zeroValue474 (aE kx (aE az bP)) (bn rfl az rfl rfl (Nat.le_of_ble_eq_true rfl) SetL.eq bO)) ?_)))))
 refine am rfl (bL rfl) ?_
 rintro _ _ ⟨b, rfl, rfl⟩
 refine aa rfl (ai rfl) (ag (ab (ae (ah (aa rfl (ac rfl) (am rfl (bz call311 rfl (Bq b i)) ?_))))))
 rintro _ B_ ⟨rfl, hB_⟩
 obtain rfl := hB_.symm
 refine ag (ab (ae (ah (aa rfl (ac rfl) (aa rfl (ai rfl) (aa rfl (ai rfl) (ag (ab (av (au (.inl rfl) (.cons (ak rfl) (.cons (ak rfl) .nil)) ?_))))))))))
 exact ⟨_, ⟨_, rfl, rfl⟩, inferInstance⟩
theorem Bs (W0 : World) (R : List HP) (c : Cfg) (h : CfK W0 c) (hr : rt c = true) (i : Nat) (hi : i < c.gl.length) (gb pv pm pb qs : Nat) (fr : List bW) (po : Po) (hF : eX fr) (hP : PoOk po) (hl : po.length = fr.length) (h0 : 0 < fr.length) (hfre : (cM c i).2.1 ≤ ((bJ po i).length : Int))
    (a : Option Addr) (cap : Nat) (ws : List Nat) (hs : ∀ A, cq (bI W0 A) a 1 i7 ws) (hb : ∀ y ∈ ws, y < 4294967296) (hn : ws.length < 9223372036854775808) (hcap : ws.length ≤ cap)
    (cs : List Value) (hc : RgC i pv cs) (h1 : cs[1]? = some (.slice c.ga c.gl.length c.gc)) (h9 : cs[9]? = some (.slice a ws.length cap)) (h10 : cs[10]? = some (pV pb)) :
    aC Tryz.prog W0 95 [pV gb] (pt gb (aw cs 234) :: pt pv (kZ qs pm 0) :: cT pb (qs, po) :: cD qs fr :: pt pm (fF gS) :: R)
      (fun v B => v = .int .i64 0 ∧ ∃ cs', RgC i pv cs' ∧ B = pt gb (aw cs' 234) :: pt pv (kZ qs pm 0) :: cT pb (qs, (eu c i ws fr po).po) :: cD qs (eu c i ws fr po).fr :: pt pm (fF (eu c i ws fr po).pg) :: R) := by
 have hR := fH hr
 have hg4 := hR.g4
 have hgs := hR.gs i hi
 obtain ⟨g, o, hga, hcc⟩ := (h.ok.g []).at_ hi
 obtain ⟨x, hx⟩ : ∃ x, c.gl[i] = x := ⟨_, rfl⟩
 have hA : cM c i = x := by simp [cM, List.getD, hi, hx]
 obtain ⟨n, hxn⟩ : ∃ n : Nat, x.2.1 = (n : Int) := ⟨x.2.1.toNat, by rw [hA] at hgs; omega⟩
 have hln : (cM c i).2.1.toNat = n := by rw [hA, hxn]; rfl
 have hlaid : eu c i ws fr po = cZ i (bH ws n) n ⟨fr, po, gS⟩ := by rw [eu, hln]
 rw [hlaid]
 rw [hx] at hcc
 rw [hA, hxn] at hgs hfre
 have hok : ImOk ⟨fr, po, gS⟩ := ⟨hF, hP, oe, hl⟩
 have hlen := hc.len
 refine aF func95 ntmps95 rfl rfl ?_
 refine ae (ah (aa rfl (ai rfl) (ag (ab (ae ?_)))))
 refine cY [(gb, 0, cs), (pv, 0, _), (g, o + i * 3, dZ x)] 40 cV rfl (aV (aV (df hcc.weak aK))) (fun hS => ?_)
 refine aj 0 rfl rfl (by kernel_rfl) (by kernel_rfl) (by kernel_rfl) rfl hS (ac rfl) ?_
 refine aj 1 rfl rfl (by kernel_rfl) (by kernel_rfl) (by kernel_rfl) rfl hS (aH rfl) ?_
 refine aj 2 rfl rfl (by kernel_rfl) (by kernel_rfl) (by kernel_rfl) rfl hS (ao rfl fy rfl mN rfl (by first | exact Nat.zero_add _ | rfl)) ?_
 refine aj 3 rfl rfl (by kernel_rfl) (by kernel_rfl) (by kernel_rfl) rfl hS (ap isAgg105 rfl (aG (k := 0) rfl h10)) ?_
 refine aj 4 rfl rfl (by kernel_rfl) (by kernel_rfl) (by kernel_rfl) rfl hS (ac rfl) ?_
 refine aj 5 rfl rfl (by kernel_rfl) (by kernel_rfl) (by kernel_rfl) rfl hS (aH rfl) ?_
 refine aj 6 rfl rfl (by kernel_rfl) (by kernel_rfl) (by kernel_rfl) rfl hS (ao rfl fy rfl lB rfl (by first | exact Nat.zero_add _ | rfl)) ?_
 refine aj 7 rfl rfl (by kernel_rfl) (by kernel_rfl) (by kernel_rfl) rfl hS (ap rO rfl (aG (k := 0) rfl hc.cv)) ?_
 refine aj 8 rfl rfl (by kernel_rfl) (by kernel_rfl) (by kernel_rfl) rfl hS (aH rfl) ?_
 refine aj 9 rfl rfl (by kernel_rfl) (by kernel_rfl) (by kernel_rfl) rfl hS (ao rfl oK rfl jf rfl (by first | exact Nat.zero_add _ | rfl)) ?_
 refine aj 10 rfl rfl (by kernel_rfl) (by kernel_rfl) (by kernel_rfl) rfl hS (ap rI rfl (aG (k := 1) rfl rfl)) ?_
 refine aj 11 rfl rfl (by kernel_rfl) (by kernel_rfl) (by kernel_rfl) rfl hS (ac rfl) ?_
 refine aj 12 rfl rfl (by kernel_rfl) (by kernel_rfl) (by kernel_rfl) rfl hS (aH rfl) ?_
 refine aj 13 rfl rfl (by kernel_rfl) (by kernel_rfl) (by kernel_rfl) rfl hS (ao rfl fy rfl lB rfl (by first | exact Nat.zero_add _ | rfl)) ?_
 refine aj 14 rfl rfl (by kernel_rfl) (by kernel_rfl) (by kernel_rfl) rfl hS (ap rO rfl (aG (k := 0) rfl hc.cv)) ?_
 refine aj 15 rfl rfl (by kernel_rfl) (by kernel_rfl) (by kernel_rfl) rfl hS (aH rfl) ?_
 refine aj 16 rfl rfl (by kernel_rfl) (by kernel_rfl) (by kernel_rfl) rfl hS (ao rfl oK rfl oL rfl (by first | exact Nat.zero_add _ | rfl)) ?_
 refine aj 17 rfl rfl (by kernel_rfl) (by kernel_rfl) (by kernel_rfl) rfl hS (ap wd rfl (aG (k := 1) rfl rfl)) ?_
 refine aj 18 rfl rfl (by kernel_rfl) (by kernel_rfl) (by kernel_rfl) rfl hS (ac rfl) ?_
 refine aj 19 rfl rfl (by kernel_rfl) (by kernel_rfl) (by kernel_rfl) rfl hS (aH rfl) ?_
 refine aj 20 rfl rfl (by kernel_rfl) (by kernel_rfl) (by kernel_rfl) rfl hS (ao rfl fy rfl az rfl (by first | exact Nat.zero_add _ | rfl)) ?_
 refine aj 21 rfl rfl (by kernel_rfl) (by kernel_rfl) (by kernel_rfl) rfl hS (ap aM rfl (aG (k := 0) rfl hc.ci)) ?_
 refine aj 22 rfl rfl (by kernel_rfl) (by kernel_rfl) (by kernel_rfl) rfl hS (ac rfl) ?_
 refine aj 23 rfl rfl (by kernel_rfl) (by kernel_rfl) (by kernel_rfl) rfl hS (aH rfl) ?_
 refine aj 24 rfl rfl (by kernel_rfl) (by kernel_rfl) (by kernel_rfl) rfl hS (ao rfl fy rfl bS rfl (by first | exact Nat.zero_add _ | rfl)) ?_
 refine aj 25 rfl rfl (by kernel_rfl) (by kernel_rfl) (by kernel_rfl) rfl hS (ao rfl bw rfl du rfl (by first | exact Nat.zero_add _ | rfl)) ?_
 refine aj 26 rfl rfl (by kernel_rfl) (by kernel_rfl) (by kernel_rfl) rfl hS (ap dy rfl (aG (k := 0) rfl h1)) ?_
 refine aj 27 rfl rfl (by kernel_rfl) (by kernel_rfl) (by kernel_rfl) rfl hS (ac rfl) ?_
 refine aj 28 rfl rfl (by kernel_rfl) (by kernel_rfl) (by kernel_rfl) rfl hS (aH rfl) ?_
 refine aj 29 rfl rfl (by kernel_rfl) (by kernel_rfl) (by kernel_rfl) rfl hS (ao rfl fy rfl az rfl (by first | exact Nat.zero_add _ | rfl)) ?_
 refine aj 30 rfl rfl (by kernel_rfl) (by kernel_rfl) (by kernel_rfl) rfl hS (ap aM rfl (aG (k := 0) rfl hc.ci)) ?_
 refine aj 31 rfl rfl (by kernel_rfl) (by kernel_rfl) (by kernel_rfl) rfl hS (ec dj ej rfl hga rfl rfl hi (by first | exact Nat.zero_add _ | rfl)) ?_
 refine aj 32 rfl rfl (by kernel_rfl) (by kernel_rfl) (by kernel_rfl) rfl hS (ao rfl dO rfl az rfl (by first | exact Nat.zero_add _ | rfl)) ?_
 refine aj 33 rfl rfl (by kernel_rfl) (by kernel_rfl) (by kernel_rfl) rfl hS (ap aM rfl (eW (k := 2) (j := 1) rfl (by rw [← hxn]; rfl : (dZ x)[1]? = some (.int .i64 (n : Int))))) ?_
 refine aj 34 rfl rfl (by kernel_rfl) (by kernel_rfl) (by kernel_rfl) rfl hS (ac rfl) ?_
 refine aj 35 rfl rfl (by kernel_rfl) (by kernel_rfl) (by kernel_rfl) rfl hS (aH rfl) ?_
 refine aj 36 rfl rfl (by kernel_rfl) (by kernel_rfl) (by kernel_rfl) rfl hS (ao rfl fy rfl mF rfl (by first | exact Nat.zero_add _ | rfl)) ?_
 refine aj 37 rfl rfl (by kernel_rfl) (by kernel_rfl) (by kernel_rfl) rfl hS (ap isAgg98 rfl (aG (k := 0) rfl h9)) ?_
 refine bB 38 (by kernel_rfl) rfl rfl (kG call214 rfl (An W0 _ pb qs pm i n ⟨fr, po, gS⟩ hok h0 a cap ws (by omega) (by omega) (by omega) v3 (by show n ≤ (bJ po i).length; omega) (fun A _ => hs A) hb hn hcap)) rfl ?_; clear hS
 rintro _ B_ ⟨rfl, hB_⟩
 obtain rfl := hB_.symm
 refine ⟨(aV (aV (df hcc.weak aK))), fun hS => ?_⟩
 refine aj 39 rfl rfl (by kernel_rfl) (by kernel_rfl) (by kernel_rfl) rfl hS (ai rfl) ?_
 refine cg (by kernel_rfl) ?_; clear hS
 refine ab (ae (ae (ah (aa rfl (ac rfl) (aa rfl (co rfl rfl) (ag (ab ?_)))))))
 refine ax rfl ?_ ?_
 intro c2
 exact absurd c2 (by decide)
 intro c2
 refine aB (ab (ae (ah (aa rfl (ac rfl) (aa rfl (bQ underlying380 zeroValue380 (aE il (aE dz bP)) bO) ?_)))))
 refine am rfl (bL rfl) ?_
 rintro _ _ ⟨b1, rfl, rfl⟩
 refine aa rfl (aH rfl) ?_
 refine aa rfl (ao rfl fy rfl we rfl (by first | exact Nat.zero_add _ | rfl)) ?_
 refine bE (ce we rfl rfl rfl (by rw [hlen]; decide) rfl) ?_
 rintro _ _ rfl
 refine ag (ab (ae ?_))
 refine kf (b := gb) (RgC i pv) (hc.set (by decide) (by decide)) fun cs2 hc2 => ?_
 refine ah (aa rfl (ac rfl) (aa rfl (aH rfl) ?_))
 refine aa rfl (ao rfl fy rfl az rfl (by first | exact Nat.zero_add _ | rfl)) ?_
 refine aa rfl (ap aM rfl (aA hc2.ci)) ?_
 refine am rfl (aS call215 rfl (Br i (by omega))) ?_
 rintro _ B_ ⟨cb, rfl, hB_⟩
 obtain rfl := hB_.symm
 refine aa rfl (ac rfl) (aa rfl (aZ rfl rfl) (aa rfl (aZ rfl rfl) (aa rfl (ai rfl) (aa rfl (ai rfl) (ag (ab (ae (ah (aa rfl (ac rfl) (aa rfl (ac rfl) (aa rfl (aH rfl) ?_)))))))))))
 refine aa rfl (ao rfl fy rfl wi rfl (by first | exact Nat.zero_add _ | rfl)) ?_
 refine bE (ce wi rfl rfl rfl (by rw [hc2.len]; decide) rfl) ?_
 rintro _ _ rfl
 refine ag (ab (ae ?_))
 refine kf (b := gb) (RgC i pv) (hc2.set (by decide) (by decide)) fun cs3 hc3 => ?_
 refine ah (aa rfl (ac rfl) (aa rfl (m6 underlying230 sizeOf229 zeroValue230 rfl) ?_))
 refine aa rfl (aH rfl) ?_
 refine aa rfl (ao rfl fy rfl wj rfl (by first | exact Nat.zero_add _ | rfl)) ?_
 refine bE (ir wj rfl rfl rfl rfl (by rw [hc3.len]; decide) rfl) ?_
 rintro _ _ rfl
 refine ag (ab (ae ?_))
 refine kf (b := gb) (RgC i pv) (hc3.setR (by decide)) fun cs4 hc4 => ?_
 refine ah (aa rfl (ac rfl) (aa rfl (bQ underlying385 zeroValue385 (aE d9 (aE sizeOf383 (aE sizeOf331 bP))) bO) ?_))
 refine am rfl (bL rfl) ?_
 rintro _ _ ⟨b2, rfl, rfl⟩
 refine aa rfl (aH rfl) ?_
 refine aa rfl (ao rfl fy rfl wk rfl (by first | exact Nat.zero_add _ | rfl)) ?_
 refine bE (ce wk rfl rfl rfl (by rw [hc4.len]; decide) rfl) ?_
 rintro _ _ rfl
 refine ag (ab (ae ?_))
 refine kf (b := gb) (RgC i pv) (hc4.set (by decide) (by decide)) fun cs5 hc5 => ?_
 refine ah (aa rfl (ac rfl) (aa rfl (bQ underlying388 zeroValue388 (aE sizeOf386 bP) bO) ?_))
 refine am rfl (bL rfl) ?_
 rintro _ _ ⟨b3, rfl, rfl⟩
 refine aa rfl (aH rfl) ?_
 refine aa rfl (ao rfl fy rfl wl rfl (by first | exact Nat.zero_add _ | rfl)) ?_
 refine bE (ce wl rfl rfl rfl (by rw [hc5.len]; decide) rfl) ?_
 rintro _ _ rfl
 refine ag (ab (ae ?_))
 refine kf (b := gb) (RgC i pv) (hc5.set (by decide) (by decide)) fun cs6 hc6 => ?_
 refine ah (aa rfl (ac rfl) (aa rfl (aH rfl) ?_))
 refine aa rfl (ao rfl fy rfl cB rfl (by first | exact Nat.zero_add _ | rfl)) ?_
 refine bE (ce cB rfl rfl rfl (by rw [hc6.len]; decide) rfl) ?_
 rintro _ _ rfl
 refine ag (ab (ae ?_))
 refine kf (b := gb) (RgC i pv) (hc6.set (by decide) (by decide)) fun cs7 hc7 => ?_
 refine ah (aa rfl (ac rfl) (aa rfl (m6 rP dz rQ rfl) ?_))
 refine aa rfl (aH rfl) ?_
 refine aa rfl (ao rfl fy rfl iV rfl (by first | exact Nat.zero_add _ | rfl)) ?_
 refine bE (ir iV rfl rfl rfl rfl (by rw [hc7.len]; decide) rfl) ?_
 rintro _ _ rfl
 refine ag (ab (ae ?_))
 refine kf (b := gb) (RgC i pv) (hc7.setR (by decide)) fun cs8 hc8 => ?_
 refine ah (aa rfl (ai rfl) (ag (ab (av (au (.inl rfl) (.cons (ak rfl) .nil) ?_)))))
 exact ⟨_, ⟨rfl, cs8, hc8, rfl⟩, inferInstance⟩
@[reducible] def r0 (c : Cfg) (i : Nat) (wv : Value) (pb bb : Nat) : List Value := [.int .i64 c.cats, .slice c.ga c.gl.length c.gc, .slice c.ra c.rl.length c.rc, .slice c.pa c.pl.length c.pc, .slice c.na c.nl.length c.nc, .slice c.sa c.sl.length c.sc, .int .i64 c.gate, .int .i64 c.quota, .int .i64 i, wv, pV pb, .pointer none, .pointer none, .pointer none, .int .u32 0, .int .u32 0, .int .u32 0, .int .i64 0, .bool false, .int .i64 0, .int .i64 0, .int .i64 0, .int .u32 0, .int .u32 0, .int .u32 0, .int .i64 0, .bool false, .int .i64 0, .int .i64 0, .int .i64 0, .int .u32 0, .int .u32 0, .int .u32 0, .int .i64 0, .bool false, .int .i64 0, .int .i64 0, .int .i64 0, .pointer none, .pointer none, pV bb, .slice none 0 0, .int .i64 0, .bool false, .int .u32 0, .int .u32 0, .int .u32 0, .int .u32 0]
theorem Bt {S : World → Prop} {N : FSz} {e : bK} {o0 o1 o2 o3 o4 : Operand} {i pb bb : Nat} {c : Cfg} {wv : Value} (hw : wv.oneCell' = true) (h0 : ev e o0 = some (.agg (cj c).toArray)) (h1 : ev e o1 = some (.int .i64 i)) (h2 : ev e o2 = some wv) (h3 : ev e o3 = some (pV pb)) (h4 : ev e o4 = some (pV bb)) :
    cn Tryz.prog S N e (.build 234 #[(0, o0), (1, o1), (2, o2), (3, o3), (10, o4)]) (.agg (r0 c i wv pb bb).toArray) :=
  bQ (l' := r0 c i wv pb bb) fy zeroValue234 (aE bS (aE az (aE mF (aE mN (aE we (aE wi (aE lB (aE wj (aE wk (aE wl (aE sizeOf217 (aE jE (aE az (aE cB (aE iV bP)))))))))))))))
    (it (l' := [.int .i64 c.cats, .slice c.ga c.gl.length c.gc, .slice c.ra c.rl.length c.rc, .slice c.pa c.pl.length c.pc, .slice c.na c.nl.length c.nc, .slice c.sa c.sl.length c.sc, .int .i64 c.gate, .int .i64 c.quota, .int .i64 0, .slice none 0 0, .pointer none, .pointer none, .pointer none, .pointer none, .int .u32 0, .int .u32 0, .int .u32 0, .int .i64 0, .bool false, .int .i64 0, .int .i64 0, .int .i64 0, .int .u32 0, .int .u32 0, .int .u32 0, .int .i64 0, .bool false, .int .i64 0, .int .i64 0, .int .i64 0, .int .u32 0, .int .u32 0, .int .u32 0, .int .i64 0, .bool false, .int .i64 0, .int .i64 0, .int .i64 0, .pointer none, .pointer none, .pointer none, .slice none 0 0, .int .i64 0, .bool false, .int .u32 0, .int .u32 0, .int .u32 0, .int .u32 0]) rfl bS h0 rfl (Nat.le_of_ble_eq_true rfl) rfl
    (bn (l' := [.int .i64 c.cats, .slice c.ga c.gl.length c.gc, .slice c.ra c.rl.length c.rc, .slice c.pa c.pl.length c.pc, .slice c.na c.nl.length c.nc, .slice c.sa c.sl.length c.sc, .int .i64 c.gate, .int .i64 c.quota, .int .i64 i, .slice none 0 0, .pointer none, .pointer none, .pointer none, .pointer none, .int .u32 0, .int .u32 0, .int .u32 0, .int .i64 0, .bool false, .int .i64 0, .int .i64 0, .int .i64 0, .int .u32 0, .int .u32 0, .int .u32 0, .int .i64 0, .bool false, .int .i64 0, .int .i64 0, .int .i64 0, .int .u32 0, .int .u32 0, .int .u32 0, .int .i64 0, .bool false, .int .i64 0, .int .i64 0, .int .i64 0, .pointer none, .pointer none, .pointer none, .slice none 0 0, .int .i64 0, .bool false, .int .u32 0, .int .u32 0, .int .u32 0, .int .u32 0]) rfl az h1 rfl (Nat.le_of_ble_eq_true rfl) rfl
    (bn (l' := [.int .i64 c.cats, .slice c.ga c.gl.length c.gc, .slice c.ra c.rl.length c.rc, .slice c.pa c.pl.length c.pc, .slice c.na c.nl.length c.nc, .slice c.sa c.sl.length c.sc, .int .i64 c.gate, .int .i64 c.quota, .int .i64 i, wv, .pointer none, .pointer none, .pointer none, .pointer none, .int .u32 0, .int .u32 0, .int .u32 0, .int .i64 0, .bool false, .int .i64 0, .int .i64 0, .int .i64 0, .int .u32 0, .int .u32 0, .int .u32 0, .int .i64 0, .bool false, .int .i64 0, .int .i64 0, .int .i64 0, .int .u32 0, .int .u32 0, .int .u32 0, .int .i64 0, .bool false, .int .i64 0, .int .i64 0, .int .i64 0, .pointer none, .pointer none, .pointer none, .slice none 0 0, .int .i64 0, .bool false, .int .u32 0, .int .u32 0, .int .u32 0, .int .u32 0]) rfl mF h2 hw (Nat.le_of_ble_eq_true rfl) rfl
    (bn (l' := [.int .i64 c.cats, .slice c.ga c.gl.length c.gc, .slice c.ra c.rl.length c.rc, .slice c.pa c.pl.length c.pc, .slice c.na c.nl.length c.nc, .slice c.sa c.sl.length c.sc, .int .i64 c.gate, .int .i64 c.quota, .int .i64 i, wv, pV pb, .pointer none, .pointer none, .pointer none, .int .u32 0, .int .u32 0, .int .u32 0, .int .i64 0, .bool false, .int .i64 0, .int .i64 0, .int .i64 0, .int .u32 0, .int .u32 0, .int .u32 0, .int .i64 0, .bool false, .int .i64 0, .int .i64 0, .int .i64 0, .int .u32 0, .int .u32 0, .int .u32 0, .int .i64 0, .bool false, .int .i64 0, .int .i64 0, .int .i64 0, .pointer none, .pointer none, .pointer none, .slice none 0 0, .int .i64 0, .bool false, .int .u32 0, .int .u32 0, .int .u32 0, .int .u32 0]) rfl mN h3 rfl (Nat.le_of_ble_eq_true rfl) rfl
    (bn (l' := [.int .i64 c.cats, .slice c.ga c.gl.length c.gc, .slice c.ra c.rl.length c.rc, .slice c.pa c.pl.length c.pc, .slice c.na c.nl.length c.nc, .slice c.sa c.sl.length c.sc, .int .i64 c.gate, .int .i64 c.quota, .int .i64 i, wv, pV pb, .pointer none, .pointer none, .pointer none, .int .u32 0, .int .u32 0, .int .u32 0, .int .i64 0, .bool false, .int .i64 0, .int .i64 0, .int .i64 0, .int .u32 0, .int .u32 0, .int .u32 0, .int .i64 0, .bool false, .int .i64 0, .int .i64 0, .int .i64 0, .int .u32 0, .int .u32 0, .int .u32 0, .int .i64 0, .bool false, .int .i64 0, .int .i64 0, .int .i64 0, .pointer none, .pointer none, pV bb, .slice none 0 0, .int .i64 0, .bool false, .int .u32 0, .int .u32 0, .int .u32 0, .int .u32 0]) rfl sizeOf217 h4 rfl (Nat.le_of_ble_eq_true rfl) rfl
    bO)))))
theorem r9 {R : List HP} {qs c : Nat} {a : Option Addr} {fr : List bW} {vs : List Value} (hv : vs.length = fr.length) : Ent (pt qs (aw [.slice a fr.length c] 193) :: osl 174 1 (.slice a fr.length c) vs :: ((vs.zip fr).map dN ++ R)) (cD qs fr :: R) := ka (vs := vs) hv rfl
theorem Bu (W0 : World) (R : List HP) (c : Cfg) (h : CfK W0 c) (hr : rt c = true) (i : Nat) (hi : i < c.gl.length) (qs pb : Nat) (fr : List bW) (po : Po) (hF : eX fr) (hP : PoOk po) (hl : po.length = fr.length) (h0 : 0 < fr.length) (hfre : (cM c i).2.1 ≤ ((bJ po i).length : Int))
    (a : Option Addr) (cap : Nat) (ws : List Nat) (hs : ∀ A, cq (bI W0 A) a 1 i7 ws) (hb : ∀ y ∈ ws, y < 4294967296) (hn : ws.length < 9223372036854775808) (hcap : ws.length ≤ cap) :
    aC Tryz.prog W0 34 [.agg (cj c).toArray, .int .i64 i, pV qs, pV pb, .slice a ws.length cap] (cT pb (qs, po) :: cD qs fr :: R)
      (fun v B => ∃ gb, v = .tuple #[pV gb, .int .i64 0] ∧ B = cT pb (qs, (eu c i ws fr po).po) :: cD qs (eu c i ws fr po).fr :: R) := by
 have hR := fH hr
 have hg4 := hR.g4
 have hnn := hR.nn
 have hok1 : ImOk (eu c i ws fr po) := jT (by omega) ⟨hF, hP, oe, hl⟩
 refine aF func34 ntmps34 rfl rfl ?_
 refine ae (ah (am rfl (bL rfl) ?_))
 rintro _ _ ⟨b5, rfl, rfl⟩
 refine aa rfl (ai rfl) (aa rfl (ai rfl) (ag (ab (ae (ae (ah (aa rfl (cu cm bS rfl rfl) ?_)))))))
 refine am rfl (aS rJ rfl (nS W0 _ c h.ok)) ?_
 rintro _ B_ ⟨rfl, hB_⟩
 obtain rfl := hB_.symm
 rw [hr]
 refine aa rfl (bN rfl) (aa rfl (ac rfl) ?_)
 refine bA rfl rfl rfl ?_ ?_
 intro g1_4
 exact absurd g1_4 (by decide)
 intro g1_4
 refine aa rfl (ac rfl) (ar rfl rfl (aa rfl (aY rfl rfl) (aa rfl (aJ rfl rfl) (aa rfl (ac rfl) ?_))))
 refine bA rfl rfl rfl ?_ ?_
 intro g1_8
 omega
 intro g1_8
 refine aa rfl (ac rfl) (ar rfl rfl ?_)
 refine aa rfl (ao rfl bw rfl du rfl (by first | exact Nat.zero_add _ | rfl)) ?_
 refine ar rfl rfl (aa rfl (ap dy rfl (aA rfl)) ?_)
 refine ar rfl rfl (aa rfl (bq dj rfl) (ar rfl rfl (aa rfl (cF rfl rfl) (aa rfl (aJ rfl rfl) (ag (ab ?_))))))
 refine ax rfl ?_ ?_
 intro c1
 omega
 intro c1
 refine aB (ab (ae (ae ?_)))
 refine k0 (qs := qs) fun a2 c2 vs hv => ?_
 refine ah (aa rfl (ac rfl) (aa rfl (dl CE rfl rfl) (aa rfl (ac rfl) ?_)))
 refine bA rfl rfl rfl ?_ ?_
 intro g3_3
 cases g3_3
 intro g3_3
 refine aa rfl (ac rfl) (ar rfl rfl (aa rfl (aH rfl) (ar rfl rfl ?_)))
 refine aa rfl (ao rfl gX rfl g6 rfl (by first | exact Nat.zero_add _ | rfl)) ?_
 refine ar rfl rfl (aa rfl (ap iG rfl (aA rfl)) ?_)
 refine ar rfl rfl (aa rfl (bq gL rfl) (ar rfl rfl (aa rfl (cz rfl rfl) (aa rfl (aJ rfl rfl) (aa rfl (ac rfl) ?_)))))
 refine bA rfl rfl rfl ?_ ?_
 intro g3_11
 omega
 intro g3_11
 refine aa rfl (ac rfl) (ar rfl rfl (aa rfl (dl underlying105 rfl rfl) (aa rfl (aJ rfl rfl) (ag (ab ?_)))))
 refine ax rfl ?_ ?_
 intro c3
 cases c3
 intro c3
 refine aB (ab (ae (fJ (r9 hv) ?_)))
 refine ah (aa rfl (cu cm bS rfl rfl) ?_)
 refine aa rfl (ac rfl) (aa rfl (ac rfl) (aa rfl (ac rfl) (aa rfl (bQ underlying220 zeroValue220 (aE lp bP) bO) ?_)))
 refine am rfl (bL rfl) ?_
 rintro _ _ ⟨bb, rfl, rfl⟩
 refine aa rfl (Bt rfl rfl rfl rfl rfl rfl) ?_
 refine am rfl (bL rfl) ?_
 rintro _ _ ⟨gb, rfl, rfl⟩
 refine aa rfl (ai rfl) (ag (ab (ae (ah (aa rfl (ac rfl) (aa rfl (ac rfl) (aa rfl (bQ mD zeroValue241 (aE oF (aE lm bP)) bO) ?_)))))))
 refine am rfl (bL rfl) ?_
 rintro _ _ ⟨pm, rfl, rfl⟩
 refine aa rfl (bQ oK zeroValue243 (aE jf (aE oL (aE oF bP))) (bn rfl jf rfl rfl (Nat.le_of_ble_eq_true rfl) SetL.eq (bn rfl oL rfl rfl (Nat.le_of_ble_eq_true rfl) SetL.eq bO))) ?_
 refine am rfl (bL rfl) ?_
 rintro _ _ ⟨pv, rfl, rfl⟩
 refine aa rfl (aH rfl) ?_
 refine aa rfl (ao rfl fy rfl lB rfl (by first | exact Nat.zero_add _ | rfl)) ?_
 refine bE (ce lB rfl rfl rfl (Nat.le_of_ble_eq_true rfl) SetL.eq) ?_
 rintro _ _ rfl
 refine ag (ab (ae (iu (b := pm) (o' := fF gS) rfl ?_)))
 refine iu (b := pv) (o' := kZ qs pm 0) rfl ?_
 refine iu (b := gb) (o' := aw ((r0 c i (.slice a ws.length cap) pb bb).set 13 (pV pv)) 234) rfl ?_
 refine ah (aa rfl (ac rfl) (am rfl (t6 call95 rfl (Bs W0 _ c h hr i hi gb pv pm pb qs fr po hF hP hl h0 hfre a cap ws hs hb hn hcap _ ⟨rfl, rfl, rfl⟩ rfl rfl rfl)) ?_))
 rintro _ _ ⟨rfl, cs, hcs, rfl⟩
 refine aa rfl (ai rfl) (ag (ab (ae (ae (ah (aa rfl (ac rfl) (aa rfl (co rfl rfl) (ag (ab ?_)))))))))
 refine ax rfl ?_ ?_
 intro c8
 exact absurd c8 (by decide)
 intro c8
 refine aB (ab (ae (ae (ah (aa rfl (ai rfl) (ag (ab (b0 ?_))))))))
 refine cC (fun X : Nat × List Pl => X.1 ≤ c.nl.length ∧ Pgs X.2) (fun X => [(1, .int .i64 i), (5, pV b5), (12, pV gb), (14, .int .i64 X.1)]) (fun X => pt b5 (d7 c) :: pt gb (aw cs 234) :: pt pv (kZ qs pm 0) :: pt pm (fF X.2) :: cT pb (qs, (eu c i ws fr po).po) :: cD qs (eu c i ws fr po).fr :: R) (fun X => c.nl.length - X.1) (0, (eu c i ws fr po).pg) ?_ ?_ ?_ ?_
 exact ⟨Nat.zero_le _, hok1.pg⟩
 · repeat (first | exact aX | refine aU rfl ?_)
 exact inferInstance
 intro ⟨k, pg⟩ ⟨hk, hpg⟩
 dsimp only at hk hpg ⊢
 refine ae (ae (ah (aa rfl (ac rfl) ?_)))
 refine aa rfl (ao rfl bw rfl fg rfl (by first | exact Nat.zero_add _ | rfl)) ?_
 refine aa rfl (ap fZ rfl (aA rfl)) ?_
 refine aa rfl (bq fv rfl) (aa rfl (aY rfl rfl) (ag (ab ?_)))
 refine ax rfl ?_ ?_
 intro c11
 refine aB (ab ?_)
 refine gM (fun pg3 : List Pl => Pgs pg3 ∧ k < c.nl.length) (fun _ => [(1, .int .i64 i), (5, pV b5), (12, pV gb), (14, .int .i64 k)]) (fun pg3 => pt b5 (d7 c) :: pt gb (aw cs 234) :: pt pv (kZ qs pm 0) :: pt pm (fF pg3) :: cT pb (qs, (eu c i ws fr po).po) :: cD qs (eu c i ws fr po).fr :: R) ?_ ?_
 skip
 refine b0 (ae ?_)
 have hk1 : k < c.nl.length := by omega
 obtain ⟨g, o, hga, hc⟩ := (h.ok.n []).at_ hk1
 obtain ⟨x, hx⟩ : ∃ x, c.nl[k] = x := ⟨_, rfl⟩
 rw [hx] at hc
 refine ah (aa rfl (cu cm bS rfl rfl) ?_)
 refine aa rfl (ac rfl) ?_
 refine am rfl (aS call96 rfl (AN W0 _ c h.ok hr k (by omega) (by omega))) ?_
 rintro _ B_ ⟨rfl, hB_⟩
 obtain rfl := hB_.symm
 refine aa rfl (ai rfl) (ag (ab ?_))
 refine gM (fun pg2 : List Pl => Pgs pg2 ∧ k < c.nl.length) (fun _ => [(1, .int .i64 i), (5, pV b5), (12, pV gb), (14, .int .i64 k), (15, .int .i64 (i9 c k))]) (fun pg2 => pt b5 (d7 c) :: pt gb (aw cs 234) :: pt pv (kZ qs pm 0) :: pt pm (fF pg2) :: cT pb (qs, (eu c i ws fr po).po) :: cD qs (eu c i ws fr po).fr :: R) ?_ ?_
 skip
 refine ae (ah ?_)
 refine aa rfl (ao rfl bw rfl fg rfl (by first | exact Nat.zero_add _ | rfl)) ?_
 refine aa rfl (ap fZ rfl (aA rfl)) ?_
 refine aa rfl (ac rfl) ?_
 refine aa rfl (ec fv gt rfl hga rfl rfl hk1 (by first | exact Nat.zero_add _ | rfl)) ?_
 refine aa rfl (ao rfl fw rfl az rfl (by first | exact Nat.zero_add _ | rfl)) ?_
 refine aa rfl (ap aM rfl (hc.weak 0 _ rfl)) ?_
 refine aa rfl (ac rfl) (aa rfl (cz rfl rfl) (ag (ab ?_)))
 refine ax rfl ?_ ?_
 intro c14
 refine ah (aa rfl (ac rfl) (aa rfl (aH rfl) ?_))
 refine aa rfl (ao rfl fy rfl lB rfl (by first | exact Nat.zero_add _ | rfl)) ?_
 refine aa rfl (ap rO rfl (aA hcs.cv)) ?_
 refine aa rfl (aH rfl) ?_
 refine aa rfl (ao rfl oK rfl oL rfl (by first | exact Nat.zero_add _ | rfl)) ?_
 refine aa rfl (ap wd rfl (aA rfl)) ?_
 refine aa rfl (ac rfl) ?_
 refine aa rfl (bC rfl rfl (by rw [aW (by omega)]; omega : IntKind.wrap .i64 (8 + (k : Int)) = ((8 + k : Nat) : Int))) ?_
 refine aa rfl (ac rfl) (aa rfl (bQ fY iF (aE az (aE az bP)) (bn rfl az rfl rfl (Nat.le_of_ble_eq_true rfl) SetL.eq (bn rfl az rfl rfl (Nat.le_of_ble_eq_true rfl) SetL.eq bO))) ?_)
 refine am rfl (bz vV rfl (qE pm pg hpg (8 + k : Nat) (i9 c k, 3))) ?_
 rintro _ B_ ⟨rfl, hB_⟩
 obtain rfl := hB_.symm
 refine ag (ab ?_)
 refine dK (e9 pg ((8 + k : Nat) : Int) (i9 c k, 3)) ?_ ?_ ?_
 exact ⟨np hpg, hk1⟩
 · repeat (first | exact aX | refine aU rfl ?_)
 exact inferInstance
 intro c14
 refine aB (ab ?_)
 refine dK pg ?_ ?_ ?_
 exact ⟨hpg, hk1⟩
 · repeat (first | exact aX | refine aU rfl ?_)
 exact inferInstance
 intro pg2 ⟨hpg2, hk1⟩
 refine ae ?_
 obtain ⟨g, o, hga, hc⟩ := (h.ok.n []).at_ hk1
 obtain ⟨x, hx⟩ : ∃ x, c.nl[k] = x := ⟨_, rfl⟩
 rw [hx] at hc
 refine ah ?_
 refine aa rfl (ao rfl bw rfl fg rfl (by first | exact Nat.zero_add _ | rfl)) ?_
 refine aa rfl (ap fZ rfl (aA rfl)) ?_
 refine aa rfl (ac rfl) ?_
 refine aa rfl (ec fv gt rfl hga rfl rfl hk1 (by first | exact Nat.zero_add _ | rfl)) ?_
 refine aa rfl (ao rfl fw rfl az rfl (by first | exact Nat.zero_add _ | rfl)) ?_
 refine aa rfl (ap aM rfl (hc.weak 1 _ rfl)) ?_
 refine aa rfl (ac rfl) (aa rfl (cz rfl rfl) (ag (ab ?_)))
 refine ax rfl ?_ ?_
 intro c16
 refine ah (aa rfl (ac rfl) (aa rfl (aH rfl) ?_))
 refine aa rfl (ao rfl fy rfl lB rfl (by first | exact Nat.zero_add _ | rfl)) ?_
 refine aa rfl (ap rO rfl (aA hcs.cv)) ?_
 refine aa rfl (aH rfl) ?_
 refine aa rfl (ao rfl oK rfl oL rfl (by first | exact Nat.zero_add _ | rfl)) ?_
 refine aa rfl (ap wd rfl (aA rfl)) ?_
 refine aa rfl (ac rfl) ?_
 refine aa rfl (bC rfl rfl (by rw [aW (by omega)]; omega : IntKind.wrap .i64 (8 + (k : Int)) = ((8 + k : Nat) : Int))) ?_
 refine aa rfl (ac rfl) (aa rfl (bQ fY iF (aE az (aE az bP)) (bn rfl az rfl rfl (Nat.le_of_ble_eq_true rfl) SetL.eq (bn rfl az rfl rfl (Nat.le_of_ble_eq_true rfl) SetL.eq bO))) ?_)
 refine am rfl (bz vV rfl (qE pm pg2 hpg2 (8 + k : Nat) (i9 c k, 1))) ?_
 rintro _ B_ ⟨rfl, hB_⟩
 obtain rfl := hB_.symm
 refine ag (bF (ab ?_))
 refine dK (e9 pg2 ((8 + k : Nat) : Int) (i9 c k, 1)) ?_ ?_ ?_
 exact ⟨np hpg2, hk1⟩
 · repeat (first | exact aX | refine aU rfl ?_)
 exact inferInstance
 intro c16
 refine aB (bF (ab ?_))
 refine dK pg2 ?_ ?_ ?_
 exact ⟨hpg2, hk1⟩
 · repeat (first | exact aX | refine aU rfl ?_)
 exact inferInstance
 intro pg3 ⟨hpg3, hk1⟩
 refine ah (aa rfl (ac rfl) ?_)
 refine aa rfl (bC rfl rfl (by first | exact aW (by omega) | rfl)) ?_
 refine aa rfl (ai rfl) (ag (ab ?_))
 refine cp (k + 1, pg3) ?_ ?_ ?_ ?_
 exact ⟨by omega, hpg3⟩
 show c.nl.length - (k + 1) < c.nl.length - k; omega
 · repeat (first | exact aX | refine aU rfl ?_)
 exact inferInstance
 intro c11
 refine bX (bi (bi (bZ (ab (ae (ah (aa rfl (ac rfl) (aa rfl (ai rfl) (aa rfl (ai rfl) (ag (ab (av (au (.inl rfl) (.cons (ak rfl) (.cons (ak rfl) .nil)) ?_)))))))))))))
 exact ⟨_, ⟨gb, rfl, rfl⟩, inferInstance⟩
theorem v5 {P : Program} {S : World → Prop} {N : FSz} {e : bK} {x : Operand} {v : Value} {l : List Value} {T : TypeId} {fs : Array Field} {nm : String} {i ft fo : Nat} {em : Bool} {tg pk : String} {bo : Nat} (hx : ev e x = some (.agg l.toArray)) (hu : P.underlying T = some (.struct fs)) (hf : fs.toList[i]? = some ⟨nm, ft, fo, em, tg, pk, bo⟩)
    (ha : ∀ w, (isAgg ft).run P w = .ok false w) (hl : l[fo]? = some v) : cn P S N e (.field T x i) v := fun a w _ _ _ _ _ hF _ => by
 have hf' : fs[i]? = some ⟨nm, ft, fo, em, tg, pk, bo⟩ := by simpa using hf
 simp only [execOp, Instr.field, hF.eval hx, Sem.run_bind, dF hu, hf', Result.andThen_ok, asAgg, Sem.run_pure]
 rw [mQ ha hl]; rfl
def mn (ps : List Prt) : Prop := kS ps ∧ ∀ x ∈ ps, ∀ s ∈ x.l, s.size ≤ 32
theorem mn.at_ {ps : List Prt} (h : mn ps) {i : Nat} (hi : i < ps.length) : ∀ s ∈ (ps.getD i default).l, s.size ≤ 32 := by
 rw [show ps.getD i default = ps[i] by simp [List.getD, hi]]; exact h.2 _ (List.getElem_mem hi)
theorem mn.set {ps : List Prt} (h : mn ps) {i : Nat} {x : Prt} (hx : x.l.length ≤ nD x) (hs : ∀ s ∈ x.l, s.size ≤ 32) : mn (ps.set i x) := ⟨h.1.set hx, fun y hy => by
 rcases List.mem_or_eq_of_mem_set hy with q | q
 exact h.2 y q
 rw [q]; exact hs⟩
structure SvS where
  fr : List bW
  d : Nat
  s : QS
  ps : List Prt
  c : Nat
  n : Nat
  b : Nat
  w : Int
@[reducible] def SvS.v (x : SvS) : List Value := [.int .i64 x.c, .int .i64 x.n, .int .i64 x.b, .int .i64 x.w]
structure SbS where
  fr : List bW
  d : Nat
  s : QS
  x : Dk
  c : Nat
  n : Nat
  b : Nat
  w : Int
@[reducible] def SbS.v (x : SbS) : List Value := [.int .i64 x.c, .int .i64 x.n, .int .i64 x.b, .int .i64 x.w]
def jv (x : Rn) : List Value := [.int .i64 x.1, .int .i64 x.2.1, .int .i64 x.2.2]
def ew (rs : List Rn) : Nat → Option (List Rn × List Int)
 | 0 => some ([], [])
 | k + 1 => (ew rs k).bind fun y => if dw (rs.getD k (0, 0, 0)).1 = true ∧ dr y.1 32 (rs.getD k (0, 0, 0)).2.1 (rs.getD k (0, 0, 0)).2.2 k = 0 then some (dT y.1 32 (rs.getD k (0, 0, 0)).2.1 (rs.getD k (0, 0, 0)).2.2 k, y.2 ++ [(rs.getD k (0, 0, 0)).1]) else none
def ez (rs : List Rn) : Option Dk := if 8 < rs.length then none else (ew rs rs.length).map fun y => ⟨y.1, y.2, List.replicate 32 gq⟩
theorem oj {rs : List Rn} {i : Nat} (h : ew rs i = none) : ∀ {k : Nat}, i ≤ k → ew rs k = none := by
 intro k hk
 induction k with
 | zero => rwa [show i = 0 by omega] at h
 | succ k ih =>
  rcases Nat.lt_or_ge i (k + 1) with q | q
  rw [ew, ih (by omega)]; rfl
  rwa [show i = k + 1 by omega] at h
theorem Bv {rs : List Rn} {n f k w m : Int} (h : ∀ x ∈ rs, 0 ≤ x.2.2 ∧ x.2.2 < m) (hm : 0 ≤ w ∧ w ≤ m) : ∀ x ∈ dT rs n f k w, 0 ≤ x.2.2 ∧ x.2.2 < m + 1 := by
 unfold dT; split
 intro x hx
 rw [ff] at hx
 rcases List.mem_append.1 hx with q | q
 have := h x (List.mem_of_mem_take q); omega
 rcases List.mem_cons.1 q with rfl | q
 show 0 ≤ w ∧ w < m + 1; omega
 have := h x (List.mem_of_mem_drop q); omega
 intro x hx
 have := h x hx; omega
structure DnOk (k : Nat) (y : List Rn × List Int) : Prop where
  tb : iy y.1
  rl : y.1.length ≤ k
  ll : y.2.length = k
  wh : ∀ x ∈ y.1, 0 ≤ x.2.2 ∧ x.2.2 < (k : Int)
theorem v6 (rs : List Rn) : ∀ {k : Nat} {y : List Rn × List Int}, ew rs k = some y → DnOk k y
 | 0, y, h => by cases h; exact ⟨fun x hx => by simp at hx, Nat.le_refl _, rfl, fun x hx => by simp at hx⟩
 | k + 1, y, h => by
  rw [ew] at h
  cases e : ew rs k with
  | none => rw [e] at h; cases h
  | some z =>
   rw [e] at h
   obtain ⟨h1, h2, h3, h4⟩ := v6 rs e
   have h' : (if dw (rs.getD k (0, 0, 0)).1 = true ∧ dr z.1 32 (rs.getD k (0, 0, 0)).2.1 (rs.getD k (0, 0, 0)).2.2 k = 0 then some (dT z.1 32 (rs.getD k (0, 0, 0)).2.1 (rs.getD k (0, 0, 0)).2.2 k, z.2 ++ [(rs.getD k (0, 0, 0)).1]) else none) = some y := h
   split at h'
   cases h'
   refine ⟨ql h1 (by decide), Nat.le_trans tL (by omega), by rw [List.length_append, h3]; rfl, fun x hx => ?_⟩
   have := Bv h4 (by omega) x hx
   omega
   cases h'
theorem Bw : md (List.replicate 32 gq) = fun _ => none := by
 funext k
 unfold md qF
 have e : (List.replicate 32 gq).getD k.toNat gq = gq := by
  simp only [List.getD, List.getElem?_replicate]
  split <;> rfl
 rw [e, if_pos rfl]; simp
theorem Bz (a : Option Addr) (c : Nat) (rs : List Rn) (hs : cq (bI W0 R) a 3 jv rs) (hl : rs.length < 9223372036854775808) :
    aC Tryz.prog W0 124 [.slice a rs.length c] R
      (fun v B => ∃ p Y, v = .tuple #[.pointer p, .int .i64 (if (ez rs).isSome then 0 else 14)] ∧ B = Y ++ R ∧ (ez rs = none → p = none ∧ Y = []) ∧ (∀ x, ez rs = some x → ∃ d, p = some ⟨d, 0, none⟩ ∧ Y = [j9 d x])) := by
 have hno : ∀ {p : Option Addr} {Y : List HP} (h : ez rs = none), p = none → Y = [] → (ez rs = none → p = none ∧ Y = []) ∧ (∀ x, ez rs = some x → ∃ d, p = some ⟨d, 0, none⟩ ∧ Y = [j9 d x]) := fun h h1 h2 => ⟨fun _ => ⟨h1, h2⟩, fun x hx => by rw [h] at hx; cases hx⟩
 refine aF func124 ntmps124 rfl rfl ?_
 refine ae (ah (aa rfl (ai rfl) (aa rfl (ai rfl) (ag (ab (ae (ae (ah (aa rfl (ac rfl) (aa rfl (bq g5 rfl) (aa rfl (cd rfl rfl) (ag (ab ?_)))))))))))))
 refine ax rfl ?_ ?_
 intro c1
 refine ae (ah (aa rfl (ai rfl) (aa rfl (ai rfl) (ag (ab (av (aD (au (.inl rfl) (.cons (ak rfl) (.cons (ak rfl) .nil)) ?_))))))))
 have hN : ez rs = none := by rw [ez, if_pos (by omega)]
 rw [hN]
 refine ⟨_, ⟨none, [], rfl, rfl, hno hN rfl rfl |>.1 |> fun q => (fun _ => ⟨rfl, rfl⟩), (fun x hx => by cases hx)⟩, ?_⟩
 simp only [List.nil_append]
 exact inferInstance
 intro c1
 refine aB (ab (ae ?_))
 have h8 : rs.length ≤ 8 := by omega
 have hD : ez rs = (ew rs rs.length).map fun y => ⟨y.1, y.2, List.replicate 32 gq⟩ := by rw [ez, if_neg (by omega)]
 refine ah ?_
 refine am rfl (aS call247 rfl (tK 32 (by decide))) ?_
 rintro _ B_ ⟨bt, rfl, hB_⟩
 obtain rfl := hB_.symm
 refine aa rfl (ac rfl) (aa rfl (aZ rfl rfl) (aa rfl (aZ rfl rfl) (aa rfl (ai rfl) (aa rfl (ai rfl) (ag (ab (ae (ah (aa rfl (ac rfl) (am rfl (zt) ?_))))))))))
 rintro _ _ ⟨bm, rfl, rfl⟩
 refine aa rfl (bQ rR zeroValue425 (aE vJ (aE d9 (aE sizeOf423 bP))) (bn rfl vJ rfl rfl (Nat.le_of_ble_eq_true rfl) SetL.eq (bn rfl sizeOf423 rfl rfl (Nat.le_of_ble_eq_true rfl) SetL.eq bO))) ?_
 refine am rfl (bL rfl) ?_
 rintro _ _ ⟨d, rfl, rfl⟩
 refine aa rfl (ai rfl) (ag (ab (ae (ae (ah (aa rfl (ac rfl) (aa rfl (bq g5 rfl) (aa rfl (ac rfl) (ag (ab (b0 ?_)))))))))))
 refine cC (fun X : Nat × List Rn × List Int × Option Addr × Nat => X.1 ≤ rs.length ∧ ew rs X.1 = some (X.2.1, X.2.2.1)) (fun X => [(4, .pointer (some ⟨bt, 0, none⟩)), (6, .pointer (some ⟨d, 0, none⟩)), (20, .slice a rs.length c), (21, .int .i64 rs.length), (22, .int .i64 X.1)]) (fun X => pt d (me bt bm X.2.2.2.1 X.2.2.1.length X.2.2.2.2) :: gm bt (X.2.1, 32) :: osl 3 1 (.slice X.2.2.2.1 X.2.2.1.length X.2.2.2.2) (X.2.2.1.flatMap ei) :: jZ bm (fun _ => none) :: R) (fun X => rs.length - X.1) (0, [], [], none, 0) ?_ ?_ ?_ ?_
 exact ⟨Nat.zero_le _, rfl⟩
 · repeat (first | exact aX | refine aU rfl ?_)
 show Ent _ (pt d (me bt bm none 0 0) :: gm bt ([], 32) :: osl 3 1 (.slice none 0 0) [] :: jZ bm (fun _ => none) :: R)
 exact (fb (E := 3) (sz := 1) (k := ent_refl)).trans inferInstance
 intro ⟨k, t, lb, aL, cL⟩ ⟨hk, hdn⟩
 dsimp only at hk hdn ⊢
 obtain ⟨h1, h2, h3, h4⟩ := v6 rs hdn
 dsimp only at h1 h2 h3 h4
 refine ae (ah (aa rfl (aY rfl rfl) (ag (ab (ae ?_)))))
 refine ax rfl ?_ ?_
 intro c6
 refine aB (ab (ae (b0 (ae ?_))))
 have hk1 : k < rs.length := by omega
 obtain ⟨g, o, rfl, hc⟩ := hs.at_ hk1
 have hgk : rs.getD k (0, 0, 0) = rs[k] := by simp [List.getD, hk1]
 obtain ⟨x, hx⟩ : ∃ x, rs[k] = x := ⟨_, rfl⟩
 rw [hx] at hc hgk
 have hst : ew rs (k + 1) = if dw x.1 = true ∧ dr t 32 x.2.1 x.2.2 k = 0 then some (dT t 32 x.2.1 x.2.2 k, lb ++ [x.1]) else none := by
  rw [ew, hdn, hgk]; rfl
 refine ah (aa rfl (ac rfl) ?_)
 refine aa rfl (bY g5 gV rfl rfl rfl hk1 (by first | exact Nat.zero_add _ | rfl)) ?_
 refine aa rfl (cQ vH gV rfl hc.weak rfl) ?_
 refine am rfl (dd oD) ?_
 rintro _ _ ⟨br, rfl, rfl⟩
 refine aa rfl (ai rfl) (bE (cK gV rfl rfl rfl rfl rfl) ?_)
 rintro _ _ rfl
 refine ag (ab (ae (ae (ah ?_))))
 refine aa rfl (ao rfl gW rfl az rfl (by first | exact Nat.zero_add _ | rfl)) ?_
 refine aa rfl (ap aM rfl (aA rfl)) ?_
 refine am rfl (aS call126 rfl (tf x.1)) ?_
 rintro _ B_ ⟨m, rfl, hm, hB_⟩
 obtain rfl := hB_.symm
 refine aa rfl (aY rfl rfl) (aa rfl (ac rfl) ?_)
 refine bA rfl rfl rfl ?_ ?_
 intro g8_5
 refine al rfl rfl rfl rfl (al rfl rfl rfl rfl (al rfl rfl rfl rfl (al rfl rfl rfl rfl (al rfl rfl rfl rfl (al rfl rfl rfl rfl (al rfl rfl rfl rfl (aa rfl (aT rfl rfl) (ag (ab (bR rfl (ae (ah (aa rfl (ai rfl) (aa rfl (ai rfl) (ag (ab (av (aD (bj (aD (aD (bj (aD ?_)))))))))))))))))))))))
 refine au (.inl rfl) (.cons (ak rfl) (.cons (ak rfl) .nil)) ?_
 have hS : ew rs (k + 1) = none := by
  rw [hst, if_neg]
  rintro ⟨q1, q2⟩
  first
    | exact absurd q2 c8
    | (rw [q1] at hm; simp at hm; omega)
 have hN : ez rs = none := by rw [hD, oj hS hk1]; rfl
 rw [hN]
 refine ⟨_, ⟨none, [], rfl, rfl, (fun _ => ⟨rfl, rfl⟩), (fun x hx => by cases hx)⟩, ?_⟩
 simp only [List.nil_append]
 exact inferInstance
 intro g8_5
 refine aa rfl (ac rfl) (ar rfl rfl ?_)
 refine aa rfl (ao rfl gW rfl az rfl (by first | exact Nat.zero_add _ | rfl)) ?_
 refine ar rfl rfl (aa rfl (ap aM rfl (aA rfl)) ?_)
 refine ar rfl rfl ?_
 refine aa rfl (ao rfl gW rfl az rfl (by first | exact Nat.zero_add _ | rfl)) ?_
 refine ar rfl rfl (aa rfl (ap aM rfl (aA rfl)) ?_)
 refine ar rfl rfl (aa rfl (ac rfl) (ar rfl rfl ?_))
 refine am rfl (bz call249 rfl (tM W0 _ bt t 32 (by decide) h1 (by omega) x.2.1 x.2.2 k)) ?_
 rintro _ B_ ⟨rfl, hB_⟩
 obtain rfl := hB_.symm
 refine ar rfl rfl (aa rfl (co rfl rfl) (aa rfl (aJ rfl rfl) (ag (ab ?_))))
 refine ax rfl ?_ ?_
 intro c8
 refine ae (ah (aa rfl (ai rfl) (aa rfl (ai rfl) (ag (ab (av (aD (bj (aD (aD (bj (aD (au (.inl rfl) (.cons (ak rfl) (.cons (ak rfl) .nil)) ?_)))))))))))))
 have hS : ew rs (k + 1) = none := by
  rw [hst, if_neg]
  rintro ⟨q1, q2⟩
  first
    | exact absurd q2 c8
    | (rw [q1] at hm; simp at hm; omega)
 have hN : ez rs = none := by rw [hD, oj hS hk1]; rfl
 rw [hN]
 refine ⟨_, ⟨none, [], rfl, rfl, (fun _ => ⟨rfl, rfl⟩), (fun x hx => by cases hx)⟩, ?_⟩
 simp only [List.nil_append]
 exact inferInstance
 intro c8
 refine aB (ab ?_)
 have hgo : dw x.1 = true ∧ dr t 32 x.2.1 x.2.2 k = 0 := by
  refine ⟨?_, by first | exact Decidable.not_not.1 c8 | simpa using c8⟩
  rw [← Bool.not_eq_false]; intro q
  rw [q] at hm; simp at hm; omega
 rw [if_pos hgo] at hst
 refine cY [(br, 0, _)] 12 cV rfl (aV aK) (fun hS => ?_)
 refine aj 0 rfl rfl (by kernel_rfl) (by kernel_rfl) (by kernel_rfl) rfl hS (ac rfl) ?_
 refine aj 1 rfl rfl (by kernel_rfl) (by kernel_rfl) (by kernel_rfl) rfl hS (ac rfl) ?_
 refine aj 2 rfl rfl (by kernel_rfl) (by kernel_rfl) (by kernel_rfl) rfl hS (aH rfl) ?_
 refine aj 3 rfl rfl (by kernel_rfl) (by kernel_rfl) (by kernel_rfl) rfl hS (ao rfl rR rfl d9 rfl (by first | exact Nat.zero_add _ | rfl)) ?_
 refine aj 5 rfl rfl (by kernel_rfl) (by kernel_rfl) (by kernel_rfl) rfl hS (ao rfl gW rfl az rfl (by first | exact Nat.zero_add _ | rfl)) ?_
 refine aj 6 rfl rfl (by kernel_rfl) (by kernel_rfl) (by kernel_rfl) rfl hS (ap aM rfl (aG (k := 0) rfl rfl)) ?_
 refine iL (is := [4, 7]) (by kernel_rfl) rfl ⟨?_, ?_, trivial⟩
 skip
 refine f8 rfl rfl (eD (ap eA rfl (aA rfl))) rfl ?_; clear hS
 rintro _ _ ⟨rfl, rfl⟩
 refine ⟨(aV aK), fun hS => ?_⟩
 refine bB 7 (by kernel_rfl) rfl rfl (fK dt az ln rfl rfl rfl rfl rfl (by decide) (by decide)) rfl ?_; clear hS
 rintro _ _ ⟨b4, rfl, rfl⟩
 refine ⟨(aV aK), fun hS => ?_⟩
 refine bB 8 (by kernel_rfl) rfl rfl (dL (sz := 1) (by_ := 8) (info := Tryz.t3) dt (by kernel_rfl) rfl rfl rfl rfl (by decide) rfl rfl dM rfl rfl (by simp only [maxLen]; omega) (by omega)) rfl ?_; clear hS
 rintro _ _ ⟨aN, cN, rfl, rfl⟩
 refine ⟨(aV aK), fun hS => ?_⟩
 refine aj 9 rfl rfl (by kernel_rfl) (by kernel_rfl) (by kernel_rfl) rfl hS (aH rfl) ?_
 refine aj 10 rfl rfl (by kernel_rfl) (by kernel_rfl) (by kernel_rfl) rfl hS (ao rfl rR rfl d9 rfl (by first | exact Nat.zero_add _ | rfl)) ?_
 refine bB 11 (by kernel_rfl) rfl rfl (ce d9 rfl rfl rfl (Nat.le_of_ble_eq_true rfl) SetL.eq) rfl ?_; clear hS
 rintro _ _ rfl
 refine ⟨(aV aK), fun hS => ?_⟩
 refine cg (by kernel_rfl) ?_; clear hS
 refine bF (ab (ah ?_))
 refine aa rfl (bC rfl rfl (by first | exact aW (by omega) | rfl)) ?_
 refine aa rfl (ac rfl) (ag (ab ?_))
 refine cp (k + 1, dT t 32 x.2.1 x.2.2 k, lb ++ [x.1], aN, cN) ?_ ?_ ?_ ?_
 exact ⟨by omega, hst⟩
 omega
 · repeat (first | exact aX | refine aU rfl ?_)
 dsimp only
 rw [show (lb ++ [x.1]).length = lb.length + 1 from List.length_append .., show (lb ++ [x.1]).flatMap ei = lb.flatMap ei ++ [Value.int .i64 x.1] by rw [List.flatMap_append]; rfl]
 exact inferInstance
 skip
 refine f8 rfl rfl (fK dt az ln rfl rfl rfl rfl rfl (by decide) (by decide)) rfl ?_; clear hS
 rintro _ _ ⟨b4, rfl, rfl⟩
 refine ⟨(aV aK), fun hS => ?_⟩
 refine bB 4 (by kernel_rfl) rfl rfl (eD (ap eA rfl (aA rfl))) rfl ?_; clear hS
 rintro _ _ ⟨rfl, rfl⟩
 refine ⟨(aV aK), fun hS => ?_⟩
 refine bB 8 (by kernel_rfl) rfl rfl (dL (sz := 1) (by_ := 8) (info := Tryz.t3) dt (by kernel_rfl) rfl rfl rfl rfl (by decide) rfl rfl dM rfl rfl (by simp only [maxLen]; omega) (by omega)) rfl ?_; clear hS
 rintro _ _ ⟨aN, cN, rfl, rfl⟩
 refine ⟨(aV aK), fun hS => ?_⟩
 refine aj 9 rfl rfl (by kernel_rfl) (by kernel_rfl) (by kernel_rfl) rfl hS (aH rfl) ?_
 refine aj 10 rfl rfl (by kernel_rfl) (by kernel_rfl) (by kernel_rfl) rfl hS (ao rfl rR rfl d9 rfl (by first | exact Nat.zero_add _ | rfl)) ?_
 refine bB 11 (by kernel_rfl) rfl rfl (ce d9 rfl rfl rfl (Nat.le_of_ble_eq_true rfl) SetL.eq) rfl ?_; clear hS
 rintro _ _ rfl
 refine ⟨(aV aK), fun hS => ?_⟩
 refine cg (by kernel_rfl) ?_; clear hS
 refine bF (ab (ah ?_))
 refine aa rfl (bC rfl rfl (by first | exact aW (by omega) | rfl)) ?_
 refine aa rfl (ac rfl) (ag (ab ?_))
 refine cp (k + 1, dT t 32 x.2.1 x.2.2 k, lb ++ [x.1], aN, cN) ?_ ?_ ?_ ?_
 exact ⟨by omega, hst⟩
 omega
 · repeat (first | exact aX | refine aU rfl ?_)
 dsimp only
 rw [show (lb ++ [x.1]).length = lb.length + 1 from List.length_append .., show (lb ++ [x.1]).flatMap ei = lb.flatMap ei ++ [Value.int .i64 x.1] by rw [List.flatMap_append]; rfl]
 exact inferInstance
 intro c6
 refine bX (bi (bi (bZ (ab (ae (ah (aa rfl (ac rfl) (aa rfl (ai rfl) (aa rfl (ai rfl) (ag (ab (av (au (.inl rfl) (.cons (ak rfl) (.cons (ak rfl) .nil)) ?_)))))))))))))
 obtain rfl : k = rs.length := by omega
 have hN : ez rs = some ⟨t, lb, List.replicate 32 gq⟩ := by rw [hD, hdn]; rfl
 rw [hN]
 refine ⟨_, ⟨_, [j9 d ⟨t, lb, List.replicate 32 gq⟩], rfl, rfl, (fun q => by cases q), (fun x hx => by cases hx; exact ⟨d, rfl, rfl⟩)⟩, ?_⟩
 simp only [List.cons_append, List.nil_append]
 exact zS (x := ⟨t, lb, List.replicate 32 gq⟩) rfl rfl Bw.symm rfl
def fq (p : Value × List ByteArray) : HP := osl 9 1 p.1 (tp p.2)
def eJ (v : Value) (ls : List (List ByteArray)) : HP := chk (fun C => ∃ vs : List Value, vs.length = ls.length ∧ C = [osl 218 1 v vs, kH 2 (bG ((vs.zip ls).map fq))])
section
variable {W0 : World} {N : FSz} {K : Act → World → Prop} {e : bK} {A B R R1 R2 R3 : List HP} {g n c : Nat} {a : Option Addr} {v : Value} {ls : List (List ByteArray)}
theorem ol [hk : Tk eJ v A ls R] (h : ∀ vs : List Value, vs.length = ls.length → aQ W0 N K e (osl 218 1 v vs :: kH 2 (bG ((vs.zip ls).map fq)) :: R)) : aQ W0 N K e A :=
  dP (r := eJ) (b := v) (iM fun C hC => by obtain ⟨vs, h1, rfl⟩ := hC; exact h vs h1)
theorem BA {vs : List Value} [h1 : Tk (osl 218 1) v A vs R1] [h2 : Tk kH 2 R1 (bG ((vs.zip ls).map fq)) R2] (hv : vs.length = ls.length) [k : Ent R2 B] : Ent A (eJ v ls :: B) := by
 have e1 : A.Perm ([osl 218 1 v vs, kH 2 (bG ((vs.zip ls).map fq))] ++ R2) := h1.perm.trans (h2.perm.cons _)
 exact (Ent.ofPerm e1).trans ((eE (R := R2) ⟨vs, hv, rfl⟩).trans (Ent.cons k))
theorem v7 [k : Ent A B] : Ent A (eJ (.slice none 0 0) [] :: B) := by
 refine k.trans ?_
 have e1 : Ent B (kH 2 (bG ((List.zip ([] : List Value) ([] : List (List ByteArray))).map fq)) :: B) := g8 (A := [])
 have e2 : Ent (kH 2 (bG ((List.zip ([] : List Value) ([] : List (List ByteArray))).map fq)) :: B) (osl 218 1 (.slice none 0 0) [] :: kH 2 (bG ((List.zip ([] : List Value) ([] : List (List ByteArray))).map fq)) :: B) := fb
 exact e1.trans (e2.trans (eE (C := [osl 218 1 (.slice none 0 0) [], kH 2 (bG ((List.zip ([] : List Value) ([] : List (List ByteArray))).map fq))]) (R := B) ⟨[], rfl, rfl⟩))
theorem BB {vs : List Value} {x : Value} [h1 : Tk (osl 218 1) v A (vs ++ [x]) R1] [h2 : Tk kH 2 R1 (bG ((vs.zip ls).map fq)) R2] (hx : x = .slice none 0 0) (hv : vs.length = ls.length) [k : Ent R2 B] : Ent A (eJ v (ls ++ [[]]) :: B) := by
 subst hx
 have e1 : A.Perm (osl 218 1 v (vs ++ [Value.slice none 0 0]) :: kH 2 (bG ((vs.zip ls).map fq)) :: R2) := h1.perm.trans (h2.perm.cons _)
 have e3 : ((vs ++ [Value.slice none 0 0]).zip (ls ++ [[]])).map fq = (vs.zip ls).map fq ++ [osl 9 1 (.slice none 0 0) []] := by
  rw [List.zip_append hv, List.map_append]; rfl
 have e4 : Ent (kH 2 (bG ((vs.zip ls).map fq)) :: R2) (kH 2 (bG (((vs ++ [Value.slice none 0 0]).zip (ls ++ [[]])).map fq)) :: R2) := by
  rw [e3]
  refine (ip (A := (vs.zip ls).map fq) (R := R2)).trans ?_
  refine (fb (E := 9) (sz := 1) (B := (vs.zip ls).map fq ++ R2)).trans ?_
  refine (Ent.ofPerm (B := ((vs.zip ls).map fq ++ [osl 9 1 (.slice none 0 0) []]) ++ R2) ?_).trans g8
  rw [List.append_assoc]; exact List.perm_middle.symm
 exact (Ent.ofPerm e1).trans ((Ent.cons e4).trans (BA (ls := ls ++ [[]]) (vs := vs ++ [.slice none 0 0]) (B := B) (by simp [hv]) (k := k)))
theorem om {vs : List Value} {x : Value} [h1 : Tk (osl 218 1) v A (vs ++ [x]) R1] [h2 : Tk kH 2 R1 (bG ((vs.zip ls).map fq)) R2] (hx : x = .slice none 0 0) (hv : vs.length = ls.length) (k : aQ W0 N K e (eJ v (ls ++ [[]]) :: R2)) : aQ W0 N K e A :=
  fJ (BB (v := v) (ls := ls) (vs := vs) (x := x) (B := R2) hx hv (k := ent_refl)) k
end
def oo (x : Prt) : List Value := [.int .i64 x.lab, .int .i64 x.gu]
def l9 (x : Prt) : List ByteArray := if x.gu = -1 then [] else x.l
def lc (x : Prt) : List ByteArray := if x.gu = -1 then x.l else []
@[reducible] def oq (ps : List Prt) (aP aI aO : Option Addr) (cP cI cO : Nat) : Obj := aw [.slice aP ps.length cP, .slice aI ps.length cI, .slice aO ps.length cO] 357
def lf (p : Nat) (ps : List Prt) : HP := chk (fun C => ∃ aP cP aI cI aO cO, C = [pt p (oq ps aP aI aO cP cI cO), osl 146 2 (.slice aP ps.length cP) (ps.flatMap oo), eJ (.slice aI ps.length cI) (ps.map l9), eJ (.slice aO ps.length cO) (ps.map lc)])
section
variable {W0 : World} {N : FSz} {K : Act → World → Prop} {e : bK} {A B R R1 R2 R3 R4 R5 R6 : List HP} {p n : Nat} {ps : List Prt}
theorem BC [hk : Tk lf p A ps R] (h : ∀ aP cP aI cI aO cO, aQ W0 N K e (pt p (oq ps aP aI aO cP cI cO) :: osl 146 2 (.slice aP ps.length cP) (ps.flatMap oo) :: eJ (.slice aI ps.length cI) (ps.map l9) :: eJ (.slice aO ps.length cO) (ps.map lc) :: R)) : aQ W0 N K e A :=
  dP (r := lf) (b := p) (iM fun C hC => by obtain ⟨aP, cP, aI, cI, aO, cO, rfl⟩ := hC; exact h aP cP aI cI aO cO)
theorem re {n1 n2 n3 : Nat} {xs : List Value} {li lo : List (List ByteArray)} {aP aI aO : Option Addr} {cP cI cO : Nat} [h1 : Tk pt p A (aw [.slice aP n1 cP, .slice aI n2 cI, .slice aO n3 cO] 357) R1] [h2 : Tk (osl 146 2) (.slice aP n1 cP) R1 xs R2] [h3 : Tk eJ (.slice aI n2 cI) R2 li R3] [h4 : Tk eJ (.slice aO n3 cO) R3 lo R4]
    (e1 : xs = ps.flatMap oo) (e2 : li = ps.map l9) (e3 : lo = ps.map lc) (e4 : n1 = ps.length) (e5 : n2 = ps.length) (e6 : n3 = ps.length) [k : Ent R4 B] : Ent A (lf p ps :: B) := by
 subst e1; subst e2; subst e3; subst e4; subst e5; subst e6
 have e : A.Perm ([pt p (oq ps aP aI aO cP cI cO), osl 146 2 (.slice aP ps.length cP) (ps.flatMap oo), eJ (.slice aI ps.length cI) (ps.map l9), eJ (.slice aO ps.length cO) (ps.map lc)] ++ R4) := h1.perm.trans ((h2.perm.trans ((h3.perm.trans (h4.perm.cons _)).cons _)).cons _)
 exact (Ent.ofPerm e).trans ((eE (R := R4) ⟨aP, cP, aI, cI, aO, cO, rfl⟩).trans (Ent.cons k))
end
def iQ (l : List i3) : Bool := decide (l.length ≤ 8) && l.all fun x => dw x.1
theorem v8 {l : List i3} (h : iQ l = true) : l.length ≤ 8 ∧ ∀ x ∈ l, dw x.1 = true := by
 rw [iQ, Bool.and_eq_true, decide_eq_true_iff, List.all_eq_true] at h; exact h
theorem v9 {l : List i3} (h1 : l.length ≤ 8) (h2 : ∀ i (hi : i < l.length), dw l[i].1 = true) : iQ l = true := by
 rw [iQ, Bool.and_eq_true, decide_eq_true_iff, List.all_eq_true]
 refine ⟨h1, fun x hx => ?_⟩
 obtain ⟨i, hi, rfl⟩ := List.getElem_of_mem hx
 exact h2 i hi
theorem BD {l : List i3} {i : Nat} (hi : i < l.length) (h : ¬ dw l[i].1 = true) : iQ l = false := by
 rw [← Bool.not_eq_true]; intro q
 exact h ((v8 q).2 _ (List.getElem_mem hi))
theorem va {l : List i3} {i : Nat} (hi : i < l.length) : fp (l.take (i + 1)) = fp (l.take i) ++ [⟨l[i].1, l[i].2, []⟩] := by
 rw [fp, fp, List.take_succ_eq_append_getElem hi, List.map_append]; rfl
theorem vc (x y : Int) : l9 ⟨x, y, []⟩ = [] := by unfold l9; split <;> rfl
theorem vd (x y : Int) : lc ⟨x, y, []⟩ = [] := by unfold lc; split <;> rfl
theorem BE (l : List i3) (a : Option Addr) (n c : Nat) (hln : l.length = n) (hs : cq (bI W0 R) a 2 q9 l) :
    aC Tryz.prog W0 83 [.slice a n c] R (fun v B => (iQ l = true ∧ ∃ p, v = .tuple #[.pointer (some ⟨p, 0, none⟩), .int .i64 0] ∧ B = lf p (fp l) :: R) ∨ (iQ l = false ∧ v = .tuple #[.pointer none, .int .i64 15] ∧ B = R)) := by
 subst hln
 refine aF func83 ntmps83 rfl rfl ?_
 refine ae (ah (aa rfl (ai rfl) (aa rfl (ai rfl) (ag (ab (ae (ae (ah (aa rfl (ac rfl) (aa rfl (bq eT rfl) (aa rfl (cd rfl rfl) (ag (ab ?_)))))))))))))
 refine ax rfl ?_ ?_
 intro c1
 refine ae (ah (aa rfl (ai rfl) (aa rfl (ai rfl) (ag (ab (av (aD (au (.inl rfl) (.cons (ak rfl) (.cons (ak rfl) .nil)) ?_))))))))
 have h0 : iQ l = false := by rw [iQ, decide_eq_false (by omega), Bool.false_and]
 exact ⟨_, .inr ⟨h0, rfl, rfl⟩, inferInstance⟩
 intro c1
 have hn : l.length ≤ 8 := by omega
 refine aB (ab (ae (ah (aa rfl (bQ iI zeroValue357 (aE fh (aE gZ (aE gZ bP))) bO) ?_))))
 refine am rfl (bL rfl) ?_
 rintro _ _ ⟨p, rfl, rfl⟩
 refine aa rfl (ai rfl) (ag (ab (ae (ae (ah (aa rfl (ai rfl) (ag (ab (b0 ?_)))))))))
 refine cC (fun i : Nat => i ≤ l.length ∧ ∀ j (hj : j < l.length), j < i → dw l[j].1 = true) (fun i => [(0, .slice a l.length c), (4, .pointer (some ⟨p, 0, none⟩)), (5, .int .i64 i)]) (fun i => lf p (fp (l.take i)) :: R) (fun i => l.length - i) 0 ?_ ?_ ?_ ?_
 exact ⟨Nat.zero_le _, fun j _ hj => absurd hj (Nat.not_lt_zero _)⟩
 · repeat (first | exact aX | refine aU rfl ?_)
 have e1 : Ent (pt p (aw [.slice none 0 0, .slice none 0 0, .slice none 0 0] 357) :: R) (eJ (.slice none 0 0) [] :: pt p (aw [.slice none 0 0, .slice none 0 0, .slice none 0 0] 357) :: R) := v7
 have e2 : Ent (eJ (.slice none 0 0) [] :: pt p (aw [.slice none 0 0, .slice none 0 0, .slice none 0 0] 357) :: R) (eJ (.slice none 0 0) [] :: eJ (.slice none 0 0) [] :: pt p (aw [.slice none 0 0, .slice none 0 0, .slice none 0 0] 357) :: R) := v7
 have e3 : Ent (eJ (.slice none 0 0) [] :: eJ (.slice none 0 0) [] :: pt p (aw [.slice none 0 0, .slice none 0 0, .slice none 0 0] 357) :: R) (osl 146 2 (.slice none 0 0) [] :: eJ (.slice none 0 0) [] :: eJ (.slice none 0 0) [] :: pt p (aw [.slice none 0 0, .slice none 0 0, .slice none 0 0] 357) :: R) := fb
 have e4 : Ent (osl 146 2 (.slice none 0 0) [] :: eJ (.slice none 0 0) [] :: eJ (.slice none 0 0) [] :: pt p (aw [.slice none 0 0, .slice none 0 0, .slice none 0 0] 357) :: R) (lf p [] :: R) := re rfl rfl rfl rfl rfl rfl
 exact e1.trans (e2.trans (e3.trans e4))
 intro i ⟨hi, hjs⟩
 refine ae (ae (ah (aa rfl (ac rfl) (aa rfl (ac rfl) (aa rfl (bq eT rfl) (aa rfl (aY rfl rfl) (ag (ab ?_))))))))
 refine ax rfl ?_ ?_
 intro c5
 have hi1 : i < l.length := by omega
 obtain ⟨g, o, rfl, hc⟩ := hs.at_ hi1
 have hln : (fp (l.take i)).length = i := by rw [qa, List.length_take]; omega
 refine aB (ab (ae (b0 (ae (ae (ah (aa rfl (ac rfl) (aa rfl (ac rfl) ?_))))))))
 refine aa rfl (bY eT eN rfl rfl rfl hi1 (by first | exact Nat.zero_add _ | rfl)) ?_
 refine aa rfl (ao rfl eB rfl az rfl (by first | exact Nat.zero_add _ | rfl)) ?_
 refine aa rfl (ap aM rfl (cJ.weak hc 0 _ rfl)) ?_
 refine am rfl (aS rx rfl (nv l[i].1)) ?_
 rintro _ B_ ⟨rfl, hB_⟩
 obtain rfl := hB_.symm
 refine aa rfl (bN rfl) (ag (ab ?_))
 refine ax rfl ?_ ?_
 intro c7
 refine ae (ah (aa rfl (ai rfl) (aa rfl (ai rfl) (ag (ab (av (aD (bj (aD (aD (bj (aD (au (.inl rfl) (.cons (ak rfl) (.cons (ak rfl) .nil)) ?_)))))))))))))
 exact ⟨_, .inr ⟨BD hi1 (by simpa using c7), rfl, rfl⟩, inferInstance⟩
 intro c7
 have hlb : dw l[i].1 = true := by simpa using c7
 refine aB (ab (ae ?_))
 refine BC (p := p) fun aP cP aI cI aO cO => ?_
 simp only [oq, hln]
 refine cY [(g, o + i * 2, q9 l[i])] 14 cV rfl (df hc.weak aK) (fun hS => ?_)
 refine aj 0 rfl rfl (by kernel_rfl) (by kernel_rfl) (by kernel_rfl) rfl hS (ac rfl) ?_
 refine aj 1 rfl rfl (by kernel_rfl) (by kernel_rfl) (by kernel_rfl) rfl hS (ac rfl) ?_
 refine aj 2 rfl rfl (by kernel_rfl) (by kernel_rfl) (by kernel_rfl) rfl hS (aH rfl) ?_
 refine aj 3 rfl rfl (by kernel_rfl) (by kernel_rfl) (by kernel_rfl) rfl hS (ao rfl iI rfl fh rfl (by first | exact Nat.zero_add _ | rfl)) ?_
 refine aj 5 rfl rfl (by kernel_rfl) (by kernel_rfl) (by kernel_rfl) rfl hS (ac rfl) ?_
 refine aj 6 rfl rfl (by kernel_rfl) (by kernel_rfl) (by kernel_rfl) rfl hS (ac rfl) ?_
 refine aj 7 rfl rfl (by kernel_rfl) (by kernel_rfl) (by kernel_rfl) rfl hS (bY eT eN rfl rfl rfl hi1 (by first | exact Nat.zero_add _ | rfl)) ?_
 refine aj 8 rfl rfl (by kernel_rfl) (by kernel_rfl) (by kernel_rfl) rfl hS (cQ mt eN rfl (dA (k := 0) rfl) rfl) ?_
 refine iL (is := [4, 9]) (by kernel_rfl) rfl ⟨?_, ?_, trivial⟩
 skip
 refine f8 rfl rfl (eD (ap ig rfl (aA rfl))) rfl ?_; clear hS
 rintro _ _ ⟨rfl, rfl⟩
 refine ⟨(df hc.weak aK), fun hS => ?_⟩
 refine bB 9 (by kernel_rfl) rfl rfl (fN eT eN jy rfl (eM rfl rfl fM) rfl (by decide) (by decide) (by decide)) rfl ?_; clear hS
 rintro _ _ ⟨b2, rfl, rfl⟩
 refine ⟨(df hc.weak aK), fun hS => ?_⟩
 refine bB 10 (by kernel_rfl) rfl rfl (dL (sz := 2) (by_ := 16) (info := Tryz.t146) eT (by kernel_rfl) rfl rfl rfl rfl (by decide) rfl rfl dM rfl rfl (by simp only [maxLen]; omega) (by omega)) rfl ?_; clear hS
 rintro _ _ ⟨a6, k6, rfl, rfl⟩
 refine ⟨(df hc.weak aK), fun hS => ?_⟩
 refine aj 11 rfl rfl (by kernel_rfl) (by kernel_rfl) (by kernel_rfl) rfl hS (aH rfl) ?_
 refine aj 12 rfl rfl (by kernel_rfl) (by kernel_rfl) (by kernel_rfl) rfl hS (ao rfl iI rfl fh rfl (by first | exact Nat.zero_add _ | rfl)) ?_
 refine bB 13 (by kernel_rfl) rfl rfl (ce fh rfl rfl rfl (Nat.le_of_ble_eq_true rfl) SetL.eq) rfl ?_; clear hS
 rintro _ _ rfl
 refine ⟨(df hc.weak aK), fun hS => ?_⟩
 refine cg (by kernel_rfl) ?_; clear hS
 refine ab (ae ?_)
 refine ol (v := .slice aI i cI) fun vI hvI => ?_
 refine ah (aa rfl (ac rfl) (aa rfl (ac rfl) (aa rfl (aH rfl) ?_)))
 refine aa rfl (ao rfl iI rfl gZ rfl (by first | exact Nat.zero_add _ | rfl)) ?_
 refine aa rfl (ap rS rfl (aA rfl)) ?_
 refine am rfl (fK kz lp rT rfl rfl rfl rfl rfl (by decide) (by decide)) ?_
 rintro _ _ ⟨b3, rfl, rfl⟩
 refine am rfl (dL (sz := 1) (by_ := 24) (info := Tryz.t218) kz (by kernel_rfl) rfl rfl rfl rfl (by decide) rfl rfl dM rfl rfl (by simp only [maxLen]; omega) (by omega)) ?_
 rintro _ _ ⟨a7, k7, rfl, rfl⟩
 refine aa rfl (aH rfl) ?_
 refine aa rfl (ao rfl iI rfl gZ rfl (by first | exact Nat.zero_add _ | rfl)) ?_
 refine bE (ce gZ rfl rfl rfl (Nat.le_of_ble_eq_true rfl) SetL.eq) ?_
 rintro _ _ rfl
 refine ag (ab (om (v := .slice a7 (i + 1) k7) (vs := vI) rfl hvI ?_))
 refine ol (v := .slice aO i cO) fun vO hvO => ?_
 refine ah (aa rfl (ac rfl) (aa rfl (ac rfl) (aa rfl (aH rfl) ?_)))
 refine aa rfl (ao rfl iI rfl gZ rfl (by first | exact Nat.zero_add _ | rfl)) ?_
 refine aa rfl (ap rS rfl (aA rfl)) ?_
 refine am rfl (fK kz lp rT rfl rfl rfl rfl rfl (by decide) (by decide)) ?_
 rintro _ _ ⟨b4, rfl, rfl⟩
 refine am rfl (dL (sz := 1) (by_ := 24) (info := Tryz.t218) kz (by kernel_rfl) rfl rfl rfl rfl (by decide) rfl rfl dM rfl rfl (by simp only [maxLen]; omega) (by omega)) ?_
 rintro _ _ ⟨a8, k8, rfl, rfl⟩
 refine aa rfl (aH rfl) ?_
 refine aa rfl (ao rfl iI rfl gZ rfl (by first | exact Nat.zero_add _ | rfl)) ?_
 refine bE (ce gZ rfl rfl rfl (Nat.le_of_ble_eq_true rfl) SetL.eq) ?_
 rintro _ _ rfl
 refine ag (bF (ab (om (v := .slice a8 (i + 1) k8) (vs := vO) rfl hvO ?_)))
 refine ah (aa rfl (ac rfl) ?_)
 refine aa rfl (bC rfl rfl (by first | exact aW (by omega) | rfl)) ?_
 refine aa rfl (ai rfl) (ag (ab ?_))
 refine cp (i + 1) ?_ ?_ ?_ ?_
 refine ⟨by omega, fun j hj h => ?_⟩
 rcases Nat.lt_or_ge j i with q | q
 exact hjs j hj q
 obtain rfl : j = i := by omega
 exact hlb
 omega
 · repeat (first | exact aX | refine aU rfl ?_)
 rw [va hi1]
 exact re (by rw [List.flatMap_append]; rfl) (by rw [List.map_append, List.map_cons, List.map_nil, vc]) (by rw [List.map_append, List.map_cons, List.map_nil, vd]) (by rw [List.length_append, hln]; rfl) (by rw [List.length_append, hln]; rfl) (by rw [List.length_append, hln]; rfl)
 skip
 refine f8 rfl rfl (fN eT eN jy rfl (eM rfl rfl fM) rfl (by decide) (by decide) (by decide)) rfl ?_; clear hS
 rintro _ _ ⟨b2, rfl, rfl⟩
 refine ⟨(df hc.weak aK), fun hS => ?_⟩
 refine bB 4 (by kernel_rfl) rfl rfl (eD (ap ig rfl (aA rfl))) rfl ?_; clear hS
 rintro _ _ ⟨rfl, rfl⟩
 refine ⟨(df hc.weak aK), fun hS => ?_⟩
 refine bB 10 (by kernel_rfl) rfl rfl (dL (sz := 2) (by_ := 16) (info := Tryz.t146) eT (by kernel_rfl) rfl rfl rfl rfl (by decide) rfl rfl dM rfl rfl (by simp only [maxLen]; omega) (by omega)) rfl ?_; clear hS
 rintro _ _ ⟨a6, k6, rfl, rfl⟩
 refine ⟨(df hc.weak aK), fun hS => ?_⟩
 refine aj 11 rfl rfl (by kernel_rfl) (by kernel_rfl) (by kernel_rfl) rfl hS (aH rfl) ?_
 refine aj 12 rfl rfl (by kernel_rfl) (by kernel_rfl) (by kernel_rfl) rfl hS (ao rfl iI rfl fh rfl (by first | exact Nat.zero_add _ | rfl)) ?_
 refine bB 13 (by kernel_rfl) rfl rfl (ce fh rfl rfl rfl (Nat.le_of_ble_eq_true rfl) SetL.eq) rfl ?_; clear hS
 rintro _ _ rfl
 refine ⟨(df hc.weak aK), fun hS => ?_⟩
 refine cg (by kernel_rfl) ?_; clear hS
 refine ab (ae ?_)
 refine ol (v := .slice aI i cI) fun vI hvI => ?_
 refine ah (aa rfl (ac rfl) (aa rfl (ac rfl) (aa rfl (aH rfl) ?_)))
 refine aa rfl (ao rfl iI rfl gZ rfl (by first | exact Nat.zero_add _ | rfl)) ?_
 refine aa rfl (ap rS rfl (aA rfl)) ?_
 refine am rfl (fK kz lp rT rfl rfl rfl rfl rfl (by decide) (by decide)) ?_
 rintro _ _ ⟨b3, rfl, rfl⟩
 refine am rfl (dL (sz := 1) (by_ := 24) (info := Tryz.t218) kz (by kernel_rfl) rfl rfl rfl rfl (by decide) rfl rfl dM rfl rfl (by simp only [maxLen]; omega) (by omega)) ?_
 rintro _ _ ⟨a7, k7, rfl, rfl⟩
 refine aa rfl (aH rfl) ?_
 refine aa rfl (ao rfl iI rfl gZ rfl (by first | exact Nat.zero_add _ | rfl)) ?_
 refine bE (ce gZ rfl rfl rfl (Nat.le_of_ble_eq_true rfl) SetL.eq) ?_
 rintro _ _ rfl
 refine ag (ab (om (v := .slice a7 (i + 1) k7) (vs := vI) rfl hvI ?_))
 refine ol (v := .slice aO i cO) fun vO hvO => ?_
 refine ah (aa rfl (ac rfl) (aa rfl (ac rfl) (aa rfl (aH rfl) ?_)))
 refine aa rfl (ao rfl iI rfl gZ rfl (by first | exact Nat.zero_add _ | rfl)) ?_
 refine aa rfl (ap rS rfl (aA rfl)) ?_
 refine am rfl (fK kz lp rT rfl rfl rfl rfl rfl (by decide) (by decide)) ?_
 rintro _ _ ⟨b4, rfl, rfl⟩
 refine am rfl (dL (sz := 1) (by_ := 24) (info := Tryz.t218) kz (by kernel_rfl) rfl rfl rfl rfl (by decide) rfl rfl dM rfl rfl (by simp only [maxLen]; omega) (by omega)) ?_
 rintro _ _ ⟨a8, k8, rfl, rfl⟩
 refine aa rfl (aH rfl) ?_
 refine aa rfl (ao rfl iI rfl gZ rfl (by first | exact Nat.zero_add _ | rfl)) ?_
 refine bE (ce gZ rfl rfl rfl (Nat.le_of_ble_eq_true rfl) SetL.eq) ?_
 rintro _ _ rfl
 refine ag (bF (ab (om (v := .slice a8 (i + 1) k8) (vs := vO) rfl hvO ?_)))
 refine ah (aa rfl (ac rfl) ?_)
 refine aa rfl (bC rfl rfl (by first | exact aW (by omega) | rfl)) ?_
 refine aa rfl (ai rfl) (ag (ab ?_))
 refine cp (i + 1) ?_ ?_ ?_ ?_
 refine ⟨by omega, fun j hj h => ?_⟩
 rcases Nat.lt_or_ge j i with q | q
 exact hjs j hj q
 obtain rfl : j = i := by omega
 exact hlb
 omega
 · repeat (first | exact aX | refine aU rfl ?_)
 rw [va hi1]
 exact re (by rw [List.flatMap_append]; rfl) (by rw [List.map_append, List.map_cons, List.map_nil, vc]) (by rw [List.map_append, List.map_cons, List.map_nil, vd]) (by rw [List.length_append, hln]; rfl) (by rw [List.length_append, hln]; rfl) (by rw [List.length_append, hln]; rfl)
 intro c5
 refine bX (bi (bi (bZ (ab (ae (ah (aa rfl (ac rfl) (aa rfl (ai rfl) (aa rfl (ai rfl) (ag (ab (av (au (.inl rfl) (.cons (ak rfl) (.cons (ak rfl) .nil)) ?_)))))))))))))
 obtain rfl : i = l.length := by omega
 rw [List.take_of_length_le (Nat.le_refl _)]
 exact ⟨_, .inl ⟨v9 hn fun j hj => hjs j hj hj, p, rfl, rfl⟩, inferInstance⟩
theorem ve {c : Cfg} (h : fD c = false) : ∀ k, k ≤ c.rl.length → ∃ y, ew c.rl k = some (et c k, y)
 | 0, _ => ⟨[], rfl⟩
 | k + 1, hk => by
  obtain ⟨y, hy⟩ := ve h k (by omega)
  simp only [fD, Bool.or_eq_false_iff, decide_eq_false_iff_not] at h
  have hw := nM h.2 (i := k) (by omega)
  rw [iz, Bool.not_eq_false', Bool.and_eq_true, decide_eq_true_iff] at hw
  obtain ⟨h1, h2⟩ := hw
  have hl : dw (fC c k).1 = true := by
   have := h1
   simp only [dD, Bool.and_eq_true] at this
   exact this.1.2
  refine ⟨y ++ [(fC c k).1], ?_⟩
  rw [ew, hy, et, if_pos h1]
  show (if dw (fC c k).1 = true ∧ dr (et c k) 32 (fC c k).2.1 (fC c k).2.2 k = 0 then _ else _) = _
  rw [if_pos ⟨hl, h2⟩]; rfl
theorem vf {c : Cfg} (h : rt c = true) : ∃ x, ez c.rl = some x := by
 obtain ⟨_, _, _, k1, _⟩ := kW h
 obtain ⟨y, hy⟩ := ve k1 c.rl.length (Nat.le_refl _)
 have := (qp k1).1
 exact ⟨_, by rw [ez, if_neg (by omega), hy]; rfl⟩
theorem vg {c : Cfg} (h : rt c = true) : iQ c.pl = true := by
 obtain ⟨_, _, _, _, k1, _⟩ := kW h
 simp only [gH, Bool.or_eq_false_iff, decide_eq_false_iff_not] at k1
 refine v9 (by omega) fun i hi => ?_
 have hw := nM k1.2 hi
 simp only [iA, Bool.or_eq_false_iff, Bool.not_eq_false'] at hw
 have := hw.1
 rw [show c.pl.getD i (0, 0) = c.pl[i] by simp [List.getD, hi]] at this
 simp only [dD, Bool.and_eq_true] at this
 exact this.1.2
theorem vh {c : Cfg} (h : rt c = true) : (0 ≤ c.cats ∧ c.cats ≤ 8) ∧ (-1 ≤ c.gate ∧ c.gate < 4) ∧ (0 ≤ c.quota ∧ c.quota ≤ 64) := by
 have hg4 := (fH h).g4
 obtain ⟨k1, k2, _, _, _, _, _, k3, _⟩ := kW h
 refine ⟨⟨k1, k2⟩, ?_⟩
 unfold fB at k3
 split at k3
 rw [decide_eq_false_iff_not] at k3; omega
 rw [Bool.not_eq_false', Bool.and_eq_true, decide_eq_true_iff, dR, decide_eq_true_iff] at k3; omega
theorem vj {n f : Nat} : (List.replicate n bT).set f bT = List.replicate n bT := by
 apply List.ext_getElem
 simp
 intro i h1 h2; rw [List.getElem_set]; simp
theorem lh {c : Cfg} {f i : Nat} (hr : rt c = true) (hf : f < bD c) (h : f4 c f = some i) : iC c f = (1, (i : Int)) := by
 rw [iC, if_pos ⟨hr, by omega, by have := (fH hr).nd; rw [bD] at hf; omega⟩, h]; rfl
theorem vk {c : Cfg} {f : Nat} (hr : rt c = true) (hf : f < bD c) (h : f4 c f = none) : (iC c f).1 = 2 := by
 rw [iC, if_pos ⟨hr, by omega, by have := (fH hr).nd; rw [bD] at hf; omega⟩, h]; rfl
theorem BF (W0 : World) (R : List HP) (c : Cfg) (h : CfK W0 c) (hr : rt c = true) (ps : Nat) :
    aC Tryz.prog W0 48 [.agg (cj c).toArray, pV ps] (cy ps (List.replicate (bD c) bT) :: R)
      (fun v B => ∃ pb, v = .tuple #[pV pb, .int .i64 0] ∧ B = d6 pb (ps, cX c (bD c)) :: cy ps (List.replicate (bD c) bT) :: R) := by
 have hR := fH hr
 have hnd := hR.nd
 have hg4 := hR.g4
 have hn : 0 < bD c ∧ bD c ≤ 32 := by rw [bD]; omega
 have hlr : (List.replicate (bD c) bT).length = bD c := by simp
 refine aF func48 ntmps48 rfl rfl ?_
 refine ae (ah (am rfl (bL rfl) ?_))
 rintro _ _ ⟨b2, rfl, rfl⟩
 refine aa rfl (ai rfl) (aa rfl (ai rfl) (ag (ab (ae (ah (aa rfl (ac rfl) ?_))))))
 refine am rfl (bz call121 rfl (yA W0 _ ps (List.replicate (bD c) bT) (by rw [hlr]; omega) (by rw [hlr]; omega))) ?_
 rintro _ B_ ⟨pb, rfl, hB_⟩
 obtain rfl := hB_.symm
 rw [hlr, ← uD]
 refine aa rfl (ac rfl) (aa rfl (aZ rfl rfl) (aa rfl (aZ rfl rfl) (aa rfl (ai rfl) (aa rfl (ai rfl) (ag (ab (ae (ae (ah (aa rfl (ac rfl) (aa rfl (co rfl rfl) (ag (ab ?_)))))))))))))
 refine ax rfl ?_ ?_
 intro c2
 exact absurd c2 (by decide)
 intro c2
 refine aB (ab (ae (ae (ah (aa rfl (ac rfl) (am rfl (bz mu rfl (kO W0 _ ps (List.replicate (bD c) bT))) ?_))))))
 rintro _ B_ ⟨rfl, hB_⟩
 obtain rfl := hB_.symm
 rw [hlr]
 refine aa rfl (ac rfl) (ag (ab (b0 ?_)))
 refine cC (fun f : Nat => f ≤ bD c) (fun f => [(2, pV b2), (6, pV pb), (19, .int .i64 (bD c : Nat)), (20, .int .i64 f)]) (fun f => pt b2 (d7 c) :: d6 pb (ps, cX c f) :: cy ps (List.replicate (bD c) bT) :: R) (fun f => bD c - f) 0 ?_ ?_ ?_ ?_
 exact Nat.zero_le _
 · repeat (first | exact aX | refine aU rfl ?_)
 exact inferInstance
 intro f hf
 refine ae (ah (aa rfl (aY rfl rfl) (ag (ab (ae ?_)))))
 refine ax rfl ?_ ?_
 intro c5
 refine aB (ab ?_)
 refine gM (fun _ : Unit => f < bD c) (fun _ => [(2, pV b2), (6, pV pb), (19, .int .i64 (bD c : Nat)), (20, .int .i64 f)]) (fun _ => pt b2 (d7 c) :: d6 pb (ps, cX c (f + 1)) :: cy ps (List.replicate (bD c) bT) :: R) ?_ ?_
 skip
 refine b0 (ae (ah (aa rfl (ac rfl) (aa rfl (ai rfl) (ag (ab (ae ?_)))))))
 have hf1 : f < bD c := by omega
 have hos := lh (i := (f4 c f).getD 0) hr hf1
 have hon := vk hr hf1
 refine ah (aa rfl (cu cm bS rfl rfl) ?_)
 refine aa rfl (ac rfl) (am rfl (aS call122 rfl (AJ W0 _ c h f)) ?_)
 rintro _ B_ ⟨rfl, hB_⟩
 obtain rfl := hB_.symm
 refine am rfl (dd iT) ?_
 rintro _ _ ⟨b9, rfl, rfl⟩
 refine bE (cK gv rfl rfl rfl rfl rfl) ?_
 rintro _ _ rfl
 refine ag (ab (ae (ah ?_)))
 refine aa rfl (ao rfl iU rfl az rfl (by first | exact Nat.zero_add _ | rfl)) ?_
 refine aa rfl (ap aM rfl (aA rfl)) ?_
 refine aa rfl (cz rfl rfl) (ag (ab ?_))
 refine ax rfl ?_ ?_
 intro c8
 obtain ⟨i, hi⟩ : ∃ i, f4 c f = some i := by
  cases e : f4 c f with
  | some i => exact ⟨i, rfl⟩
  | none => have := hon e; rw [this] at c8; exact absurd c8 (by decide)
 have hov := lh hr hf1 hi
 have hi4 := ((nT hR).1 hi).1
 have hps := uE hf1 hi
 refine ah (aa rfl (ac rfl) (aa rfl (ac rfl) ?_))
 refine aa rfl (ao rfl iU rfl az rfl (by first | exact Nat.zero_add _ | rfl)) ?_
 refine aa rfl (ap aM rfl (aA (by rw [hov]; rfl : (nW (iC c f))[1]? = some (.int .i64 (i : Int))))) ?_
 refine am rfl (gN call123 rfl (yC W0 _ pb ps (cX c f) (List.replicate (bD c) bT) f i (by rw [l8]; exact hf1) (by rw [hlr]; exact hf1) (by omega) (uG hR f) (by rw [nU hf1, if_neg (by omega)]))) ?_
 rintro _ B_ ⟨rfl, hB_⟩
 obtain rfl := hB_.symm
 rw [vj, ← hps]
 refine ag (bF (ab ?_))
 refine dK () ?_ ?_ ?_
 exact hf1
 · repeat (first | exact aX | refine aU rfl ?_)
 exact inferInstance
 intro c8
 have hps : cX c (f + 1) = cX c f := by
  cases e : f4 c f with
  | none => exact uF e
  | some i => have := lh hr hf1 e; rw [this] at c8; exact absurd rfl c8
 refine aB (bF (ab ?_))
 refine dK () ?_ ?_ ?_
 exact hf1
 · repeat (first | exact aX | refine aU rfl ?_)
 rw [hps]
 exact inferInstance
 intro _ hf1
 refine ah ?_
 refine aa rfl (bC rfl rfl (by first | exact aW (by omega) | rfl)) ?_
 refine aa rfl (ac rfl) (ag (ab ?_))
 refine cp (f + 1) ?_ ?_ ?_ ?_
 omega
 omega
 · repeat (first | exact aX | refine aU rfl ?_)
 exact inferInstance
 intro c5
 refine bX (bi (bi (bZ (ab (ae (ah (aa rfl (ac rfl) (aa rfl (ai rfl) (aa rfl (ai rfl) (ag (ab (av (au (.inl rfl) (.cons (ak rfl) (.cons (ak rfl) .nil)) ?_)))))))))))))
 obtain rfl : f = bD c := by omega
 exact ⟨_, ⟨pb, rfl, rfl⟩, inferInstance⟩
theorem BG (W0 : World) (R : List HP) (c : Cfg) (h : CfK W0 c) (hr : rt c = true) :
    aC Tryz.prog W0 49 [.agg (cj c).toArray, .slice none 0 0] R (fun v B => ∃ db x, v = .tuple #[pV db, .int .i64 0] ∧ B = j9 db x :: R) := by
 obtain ⟨x, hx⟩ := vf hr
 have hl := (qp (kW hr).2.2.2.1).1
 refine aF func49 ntmps49 rfl rfl ?_
 refine ae (ah (am rfl (bL rfl) ?_))
 rintro _ _ ⟨b2, rfl, rfl⟩
 refine aa rfl (ai rfl) (aa rfl (ai rfl) (ag (ab (ae (ah ?_)))))
 refine aa rfl (ao rfl bw rfl ie rfl (by first | exact Nat.zero_add _ | rfl)) ?_
 refine aa rfl (ap ks rfl (aA rfl)) ?_
 refine am rfl (aS call124 rfl (Bz c.ra c.rc c.rl (h.ok.r _) (by omega))) ?_
 rintro _ B_ ⟨p, Y, rfl, hB_, _, hY⟩
 obtain rfl := hB_.symm
 obtain ⟨db, rfl, rfl⟩ := hY x hx
 rw [hx, show (if (some x).isSome = true then (0 : Int) else 14) = 0 from rfl]
 simp only [List.cons_append, List.nil_append]
 refine aa rfl (ac rfl) (aa rfl (aZ rfl rfl) (aa rfl (aZ rfl rfl) (aa rfl (ai rfl) (aa rfl (ai rfl) (ag (ab (ae (ae (ah (aa rfl (ac rfl) (aa rfl (co rfl rfl) (ag (ab ?_)))))))))))))
 refine ax rfl ?_ ?_
 intro c2
 exact absurd c2 (by decide)
 intro c2
 refine aB (ab (ae (ae (ah (aa rfl (ac rfl) (aa rfl (bq CF rfl) (aa rfl (ac rfl) (ag (ab (b0 ?_))))))))))
 refine cC (fun _ : Unit => True) (fun _ => [(6, pV db), (20, .int .i64 0), (21, .int .i64 0)]) (fun _ => j9 db x :: R) (fun _ => 0) () ?_ ?_ ?_ ?_
 trivial
 · repeat (first | exact aX | refine aU rfl ?_)
 exact inferInstance
 intro _ _
 refine ae (ah (aa rfl (aY rfl rfl) (ag (ab (ae ?_)))))
 refine ax rfl ?_ ?_
 intro c5
 omega
 intro c5
 refine bX (bi (bi (bZ (ab (ae (ah (aa rfl (ac rfl) (aa rfl (ai rfl) (aa rfl (ai rfl) (ag (ab (av (au (.inl rfl) (.cons (ak rfl) (.cons (ak rfl) .nil)) ?_)))))))))))))
 exact ⟨_, ⟨db, x, rfl, rfl⟩, inferInstance⟩
@[reducible] def dV (c : Cfg) (ps pb db qb gb : Nat) : List Value := cj c ++ [pV ps, pV pb, pV db, pV qb, pV gb]
theorem vl (W0 : World) (R : List HP) (c : Cfg) (h : CfK W0 c) (hr : rt c = true) :
    aC Tryz.prog W0 19 [.agg (cj c).toArray, .slice none 0 0] R
      (fun v B => ∃ hb ps pb db qb gb x, v = .tuple #[pV hb, .int .i64 0] ∧ B = pt hb (aw (dV c ps pb db qb gb) 68) :: cy ps (List.replicate (bD c) bT) :: d6 pb (ps, cX c (bD c)) :: j9 db x :: m7 qb (fp c.pl) :: pt gb (jt c.cats c.gate c.quota) :: R) := by
 have hck : gn c = 0 := of_decide_eq_true hr
 have hfn : gJ c = bD c := by rw [gJ, if_pos hr]
 have hf32 := uI c
 obtain ⟨q1, q2⟩ := v8 (vg hr)
 obtain ⟨z1, z2, z3⟩ := vh hr
 refine aF func19 ntmps19 rfl rfl ?_
 refine ae (ah (am rfl (bL rfl) ?_))
 rintro _ _ ⟨b2, rfl, rfl⟩
 refine aa rfl (ai rfl) (aa rfl (ai rfl) (ag (ab (ae (ae (ah (aa rfl (cu cm bS rfl rfl) ?_)))))))
 refine am rfl (aS vM rfl (qq W0 _ c h.ok)) ?_
 rintro _ B_ ⟨at_, rfl, hB_⟩
 obtain rfl := hB_.symm
 rw [hck]
 refine aa rfl (ac rfl) (aa rfl (aZ rfl rfl) (aa rfl (aZ rfl rfl) (aa rfl (ai rfl) (aa rfl (ai rfl) (ag (ab (ae (ah (aa rfl (ac rfl) (aa rfl (co rfl rfl) (ag (ab ?_))))))))))))
 refine ax rfl ?_ ?_
 intro c2
 exact absurd c2 (by decide)
 intro c2
 refine aB (ab (ae (ah (aa rfl (cu cm bS rfl rfl) ?_))))
 refine aa rfl (bQ iW CG (aE bS (aE ic (aE mM (aE wm (aE wn (aE wo bP)))))) (it rfl bS rfl rfl (Nat.le_of_ble_eq_true rfl) SetRL.eq bO)) ?_
 refine am rfl (bL rfl) ?_
 rintro _ _ ⟨hb, rfl, rfl⟩
 refine aa rfl (ai rfl) (ag (ab (ae (ah (aa rfl (ai rfl) (ag (ab (ae (ae (ah (aa rfl (ac rfl) (aa rfl (cu cm bS rfl rfl) ?_))))))))))))
 refine am rfl (aS call47 rfl (AI W0 _ c h.ok)) ?_
 rintro _ B_ ⟨rfl, hB_⟩
 obtain rfl := hB_.symm
 rw [hfn]
 refine am rfl (aS call46 rfl (xA W0 _ (bD c) (by omega))) ?_
 rintro _ B_ ⟨ps, rfl, hB_⟩
 obtain rfl := hB_.symm
 refine aa rfl (ac rfl) (aa rfl (aZ rfl rfl) (aa rfl (aZ rfl rfl) (aa rfl (aH rfl) ?_)))
 refine aa rfl (ao rfl iW rfl ic rfl (by first | exact Nat.zero_add _ | rfl)) ?_
 refine bE (ce ic rfl rfl rfl (Nat.le_of_ble_eq_true rfl) SetL.eq) ?_
 rintro _ _ rfl
 refine aa rfl (ai rfl) (ag (ab (ae (ah (aa rfl (ac rfl) (aa rfl (co rfl rfl) (ag (ab ?_))))))))
 refine ax rfl ?_ ?_
 intro c7
 exact absurd c7 (by decide)
 intro c7
 refine aB (ab (ae (ae ?_)))
 refine cY [(b2, 0, _)] 14 cV rfl (aV aK) (fun hS => ?_)
 refine aj 0 rfl rfl (by kernel_rfl) (by kernel_rfl) (by kernel_rfl) rfl hS (ac rfl) ?_
 refine aj 1 rfl rfl (by kernel_rfl) (by kernel_rfl) (by kernel_rfl) rfl hS (cQ cm bS rfl (dA (k := 0) rfl) rfl) ?_
 refine aj 2 rfl rfl (by kernel_rfl) (by kernel_rfl) (by kernel_rfl) rfl hS (ac rfl) ?_
 refine aj 3 rfl rfl (by kernel_rfl) (by kernel_rfl) (by kernel_rfl) rfl hS (aH rfl) ?_
 refine aj 4 rfl rfl (by kernel_rfl) (by kernel_rfl) (by kernel_rfl) rfl hS (ao rfl iW rfl ic rfl (by first | exact Nat.zero_add _ | rfl)) ?_
 refine bB 5 (by kernel_rfl) rfl rfl (eD (ap kl rfl (aA rfl))) rfl ?_; clear hS
 rintro _ _ ⟨rfl, rfl⟩
 refine ⟨(aV aK), fun hS => ?_⟩
 refine bB 6 (by kernel_rfl) rfl rfl (bz call48 rfl (BF W0 _ c h hr ps)) rfl ?_; clear hS
 rintro _ B_ ⟨pb, rfl, hB_⟩
 obtain rfl := hB_.symm
 refine ⟨(aV aK), fun hS => ?_⟩
 refine aj 7 rfl rfl (by kernel_rfl) (by kernel_rfl) (by kernel_rfl) rfl hS (ac rfl) ?_
 refine aj 8 rfl rfl (by kernel_rfl) (by kernel_rfl) (by kernel_rfl) rfl hS (aZ rfl rfl) ?_
 refine aj 9 rfl rfl (by kernel_rfl) (by kernel_rfl) (by kernel_rfl) rfl hS (aZ rfl rfl) ?_
 refine aj 10 rfl rfl (by kernel_rfl) (by kernel_rfl) (by kernel_rfl) rfl hS (aH rfl) ?_
 refine aj 11 rfl rfl (by kernel_rfl) (by kernel_rfl) (by kernel_rfl) rfl hS (ao rfl iW rfl mM rfl (by first | exact Nat.zero_add _ | rfl)) ?_
 refine bB 12 (by kernel_rfl) rfl rfl (ce mM rfl rfl rfl (Nat.le_of_ble_eq_true rfl) SetL.eq) rfl ?_; clear hS
 rintro _ _ rfl
 refine ⟨(aV aK), fun hS => ?_⟩
 refine aj 13 rfl rfl (by kernel_rfl) (by kernel_rfl) (by kernel_rfl) rfl hS (ai rfl) ?_
 refine cg (by kernel_rfl) ?_; clear hS
 refine ab (ae (ah (aa rfl (ac rfl) (aa rfl (co rfl rfl) (ag (ab ?_))))))
 refine ax rfl ?_ ?_
 intro c10
 exact absurd c10 (by decide)
 intro c10
 refine aB (ab (ae (ae (ah (aa rfl (ac rfl) (aa rfl (cu cm bS rfl rfl) ?_))))))
 refine aa rfl (ac rfl) (am rfl (aS call49 rfl (BG W0 _ c h hr)) ?_)
 rintro _ B_ ⟨db, x, rfl, hB_⟩
 obtain rfl := hB_.symm
 refine aa rfl (ac rfl) (aa rfl (aZ rfl rfl) (aa rfl (aZ rfl rfl) (aa rfl (aH rfl) ?_)))
 refine aa rfl (ao rfl iW rfl wm rfl (by first | exact Nat.zero_add _ | rfl)) ?_
 refine bE (ce wm rfl rfl rfl (Nat.le_of_ble_eq_true rfl) SetL.eq) ?_
 rintro _ _ rfl
 refine aa rfl (ai rfl) (ag (ab (ae (ah (aa rfl (ac rfl) (aa rfl (co rfl rfl) (ag (ab ?_))))))))
 refine ax rfl ?_ ?_
 intro c13
 exact absurd c13 (by decide)
 intro c13
 refine aB (ab (ae (ae (ah (aa rfl (ac rfl) ?_)))))
 refine aa rfl (ao rfl bw rfl fh rfl (by first | exact Nat.zero_add _ | rfl)) ?_
 refine aa rfl (ap ig rfl (aA rfl)) ?_
 refine am rfl (aS call50 rfl (yx c.pl c.pa c.pl.length c.pc rfl q1 (h.ok.p _) q2)) ?_
 rintro _ B_ ⟨qb, rfl, hB_⟩
 obtain rfl := hB_.symm
 refine aa rfl (ac rfl) (aa rfl (aZ rfl rfl) (aa rfl (aZ rfl rfl) (aa rfl (aH rfl) ?_)))
 refine aa rfl (ao rfl iW rfl wn rfl (by first | exact Nat.zero_add _ | rfl)) ?_
 refine bE (ce wn rfl rfl rfl (Nat.le_of_ble_eq_true rfl) SetL.eq) ?_
 rintro _ _ rfl
 refine aa rfl (ai rfl) (ag (ab (ae (ah (aa rfl (ac rfl) (aa rfl (co rfl rfl) (ag (ab ?_))))))))
 refine ax rfl ?_ ?_
 intro c16
 exact absurd c16 (by decide)
 intro c16
 refine aB (ab (ae (ae (ah (aa rfl (ac rfl) ?_)))))
 refine aa rfl (ao rfl bw rfl az rfl (by first | exact Nat.zero_add _ | rfl)) ?_
 refine aa rfl (ap aM rfl (aA rfl)) ?_
 refine aa rfl (ao rfl bw rfl az rfl (by first | exact Nat.zero_add _ | rfl)) ?_
 refine aa rfl (ap aM rfl (aA rfl)) ?_
 refine aa rfl (ao rfl bw rfl az rfl (by first | exact Nat.zero_add _ | rfl)) ?_
 refine aa rfl (ap aM rfl (aA rfl)) ?_
 refine am rfl (aS call51 rfl (B8 c.cats c.gate c.quota z1 z2 z3)) ?_
 rintro _ B_ ⟨gb, rfl, hB_⟩
 obtain rfl := hB_.symm
 refine aa rfl (ac rfl) (aa rfl (aZ rfl rfl) (aa rfl (aZ rfl rfl) (aa rfl (aH rfl) ?_)))
 refine aa rfl (ao rfl iW rfl wo rfl (by first | exact Nat.zero_add _ | rfl)) ?_
 refine bE (ce wo rfl rfl rfl (Nat.le_of_ble_eq_true rfl) SetL.eq) ?_
 rintro _ _ rfl
 refine aa rfl (ai rfl) (ag (ab (ae (ah (aa rfl (ac rfl) (aa rfl (co rfl rfl) (ag (ab ?_))))))))
 refine ax rfl ?_ ?_
 intro c19
 exact absurd c19 (by decide)
 intro c19
 refine aB (ab (ae (ah (aa rfl (ac rfl) (aa rfl (ai rfl) (aa rfl (ai rfl) (ag (ab (av (iu (b := hb) (o' := aw (dV c ps pb db qb gb) 68) rfl ?_))))))))))
 refine au (.inl rfl) (.cons (ak rfl) (.cons (ak rfl) .nil)) ?_
 exact ⟨_, ⟨hb, ps, pb, db, qb, gb, x, rfl, rfl⟩, inferInstance⟩
def rf (b : List Nat) : List Value := (List.range 16).map fun i => bV (b.getD i 0)
@[reducible] def rh (bt : Nat) (aR : Option Addr) (n cR : Nat) (ys : List Value) : Obj := aw (.slice aR n cR :: .pointer (some ⟨bt, 0, none⟩) :: ys) 352
def ri (d : Nat) (x : Dk) : HP := chk (fun C => ∃ bt aR cR, ∃ (L : List Int) (rl : List Rn), (RT x.rs L ∧ L.length = 32 ∧ rl.map (fun r => r.1) = x.lb) ∧ C = [pt d (rh bt aR rl.length cR (x.ss.flatMap rf)), iB bt L, osl 144 3 (.slice aR rl.length cR) (rl.flatMap jv)])
section
variable {W0 : World} {N : FSz} {K : Act → World → Prop} {e : bK} {A B R R1 R2 R3 : List HP} {d : Nat} {x : Dk}
theorem BH {bt n cR : Nat} {aR : Option Addr} {L : List Int} {rl : List Rn} {ys zs : List Value} [h1 : Tk pt d A (rh bt aR n cR zs) R1] [h2 : Tk iB bt R1 L R2] [h3 : Tk (osl 144 3) (.slice aR n cR) R2 ys R3]
    (q1 : RT x.rs L) (q2 : L.length = 32) (q3 : rl.map (fun r => r.1) = x.lb) (e1 : zs = x.ss.flatMap rf) (e2 : ys = rl.flatMap jv) (e3 : n = rl.length) [k : Ent R3 B] : Ent A (ri d x :: B) := by
 subst e1; subst e2; subst e3
 have e : A.Perm ([pt d (rh bt aR rl.length cR (x.ss.flatMap rf)), iB bt L, osl 144 3 (.slice aR rl.length cR) (rl.flatMap jv)] ++ R3) := h1.perm.trans ((h2.perm.trans (h3.perm.cons _)).cons _)
 exact (Ent.ofPerm e).trans ((eE (R := R3) ⟨bt, aR, cR, L, rl, ⟨q1, q2, q3⟩, rfl⟩).trans (Ent.cons k))
end
theorem vm (x : Rn) : (jv x).length = 3 := rfl
theorem BI (l : List Rn) : en (l.flatMap jv) = true := by
 induction l with
 | nil => rfl
 | cons x l ih => rw [List.flatMap_cons, en, List.all_append, Bool.and_eq_true]; exact ⟨rfl, ih⟩
theorem BJ : ∀ w, (zeroValue 352).run Tryz.prog w = .ok (.agg (.slice none 0 0 :: .pointer none :: List.replicate 512 (.int .u8 0)).toArray) w := fun w => (zeroValue352 w).trans (by kernel_rfl)
theorem vn (rs : List Rn) : ∀ {k : Nat} {y : List Rn × List Int}, k ≤ rs.length → ew rs k = some y → y.2 = (rs.take k).map (fun r => r.1)
 | 0, y, _, h => by cases h; rfl
 | k + 1, y, hk, h => by
  rw [ew] at h
  cases e : ew rs k with
  | none => rw [e] at h; cases h
  | some z =>
   rw [e] at h
   have ih := vn rs (by omega) e
   have h' : (if dw (rs.getD k (0, 0, 0)).1 = true ∧ dr z.1 32 (rs.getD k (0, 0, 0)).2.1 (rs.getD k (0, 0, 0)).2.2 k = 0 then some (dT z.1 32 (rs.getD k (0, 0, 0)).2.1 (rs.getD k (0, 0, 0)).2.2 k, z.2 ++ [(rs.getD k (0, 0, 0)).1]) else none) = some y := h
   split at h'
   cases h'
   rw [List.take_succ_eq_append_getElem (by omega), List.map_append, ← ih, show rs.getD k (0, 0, 0) = rs[k]'(by omega) by simp [List.getD, show k < rs.length by omega]]; rfl
   cases h'
theorem BK (a : Option Addr) (c : Nat) (rs : List Rn) (hs : cq (bI W0 R) a 3 jv rs) (hl : rs.length < 9223372036854775808) (hb : ∀ x ∈ rs, -9223372036854775808 ≤ x.2.1 ∧ x.2.1 < 9223372036854775808) :
    aC Tryz.prog W0 81 [.slice a rs.length c] R
      (fun v B => ∃ p Y, v = .tuple #[.pointer p, .int .i64 (if (ez rs).isSome then 0 else 14)] ∧ B = Y ++ R ∧ (ez rs = none → p = none ∧ Y = []) ∧ (∀ x, ez rs = some x → ∃ d, p = some ⟨d, 0, none⟩ ∧ Y = [ri d x])) := by
 refine aF func81 ntmps81 rfl rfl ?_
 refine ae (ah (aa rfl (ai rfl) (aa rfl (ai rfl) (ag (ab (ae (ae (ah (aa rfl (ac rfl) (aa rfl (bq g5 rfl) (aa rfl (cd rfl rfl) (ag (ab ?_)))))))))))))
 refine ax rfl ?_ ?_
 intro c1
 refine ae (ah (aa rfl (ai rfl) (aa rfl (ai rfl) (ag (ab (av (aD (au (.inl rfl) (.cons (ak rfl) (.cons (ak rfl) .nil)) ?_))))))))
 have hN : ez rs = none := by rw [ez, if_pos (by omega)]
 rw [hN]
 refine ⟨_, ⟨none, [], rfl, rfl, (fun _ => ⟨rfl, rfl⟩), (fun x hx => by cases hx)⟩, ?_⟩
 simp only [List.nil_append]
 exact inferInstance
 intro c1
 refine aB (ab (ae ?_))
 have h8 : rs.length ≤ 8 := by omega
 have hD : ez rs = (ew rs rs.length).map fun y => ⟨y.1, y.2, List.replicate 32 gq⟩ := by rw [ez, if_neg (by omega)]
 refine ah ?_
 refine am rfl (aS call194 rfl (uw 32 (by decide))) ?_
 rintro _ B_ ⟨bt, rfl, hB_⟩
 obtain rfl := hB_.symm
 refine aa rfl (ac rfl) (aa rfl (aZ rfl rfl) (aa rfl (aZ rfl rfl) (aa rfl (ai rfl) (aa rfl (ai rfl) (ag (ab (ae (ae (ah (aa rfl (ai rfl) (ag (ab (b0 ?_)))))))))))))
 refine cC (fun X : Nat × List Int => X.1 ≤ rs.length ∧ X.2.length = 32 ∧ ∃ y, ew rs X.1 = some y ∧ RT y.1 X.2) (fun X => [(0, .slice a rs.length c), (4, .pointer (some ⟨bt, 0, none⟩)), (6, .int .i64 X.1)]) (fun X => iB bt X.2 :: R) (fun X => rs.length - X.1) (0, List.replicate 32 (-1)) ?_ ?_ ?_ ?_
 exact ⟨Nat.zero_le _, rfl, _, rfl, tX 32⟩
 · repeat (first | exact aX | refine aU rfl ?_)
 exact inferInstance
 intro ⟨k, L⟩ ⟨hk, hL, y, hdn, hRT⟩
 dsimp only at hk hL hdn hRT ⊢
 refine ae (ae (ah (aa rfl (ac rfl) (aa rfl (ac rfl) (aa rfl (bq g5 rfl) (aa rfl (aY rfl rfl) (ag (ab ?_))))))))
 refine ax rfl ?_ ?_
 intro c5
 refine aB (ab (ae (b0 (ae ?_))))
 have hk1 : k < rs.length := by omega
 obtain ⟨g, o, rfl, hc⟩ := hs.at_ hk1
 have hgk : rs.getD k (0, 0, 0) = rs[k] := by simp [List.getD, hk1]
 have hbk := hb _ (List.getElem_mem hk1)
 obtain ⟨x, hx⟩ : ∃ x, rs[k] = x := ⟨_, rfl⟩
 rw [hx] at hc hgk hbk
 have hst : ew rs (k + 1) = if dw x.1 = true ∧ dr y.1 32 x.2.1 x.2.2 k = 0 then some (dT y.1 32 x.2.1 x.2.2 k, y.2 ++ [x.1]) else none := by
  rw [ew, hdn, hgk]; rfl
 have hE := qo hRT (n := 32) (by rw [hL]; rfl) x.2.1 x.2.2 k
 refine cY [(g, o + k * 3, jv x)] 23 cV rfl (df hc.weak aK) (fun hS => ?_)
 refine aj 0 rfl rfl (by kernel_rfl) (by kernel_rfl) (by kernel_rfl) rfl hS (ac rfl) ?_
 refine aj 1 rfl rfl (by kernel_rfl) (by kernel_rfl) (by kernel_rfl) rfl hS (ac rfl) ?_
 refine aj 2 rfl rfl (by kernel_rfl) (by kernel_rfl) (by kernel_rfl) rfl hS (bY g5 gV rfl rfl rfl hk1 (by first | exact Nat.zero_add _ | rfl)) ?_
 refine aj 3 rfl rfl (by kernel_rfl) (by kernel_rfl) (by kernel_rfl) rfl hS (ao rfl gW rfl az rfl (by first | exact Nat.zero_add _ | rfl)) ?_
 refine aj 4 rfl rfl (by kernel_rfl) (by kernel_rfl) (by kernel_rfl) rfl hS (ap aM rfl (eW (k := 0) (j := 0) rfl rfl)) ?_
 refine bB 5 (by kernel_rfl) rfl rfl (aS rx rfl (nv x.1)) rfl ?_; clear hS
 rintro _ B_ ⟨rfl, hB_⟩
 obtain rfl := hB_.symm
 refine ⟨(df hc.weak aK), fun hS => ?_⟩
 refine aj 6 rfl rfl (by kernel_rfl) (by kernel_rfl) (by kernel_rfl) rfl hS (bN rfl) ?_
 refine aj 7 rfl rfl (by kernel_rfl) (by kernel_rfl) (by kernel_rfl) rfl hS (ac rfl) ?_
 refine f7 (t := 27) rfl ?_ ?_
 intro g7_8
 refine bp 8 rfl rfl (by kernel_rfl) (by kernel_rfl) (by kernel_rfl) rfl hS ?_
 refine bp 9 rfl rfl (by kernel_rfl) (by kernel_rfl) (by kernel_rfl) rfl hS ?_
 refine bp 10 rfl rfl (by kernel_rfl) (by kernel_rfl) (by kernel_rfl) rfl hS ?_
 refine bp 11 rfl rfl (by kernel_rfl) (by kernel_rfl) (by kernel_rfl) rfl hS ?_
 refine bp 12 rfl rfl (by kernel_rfl) (by kernel_rfl) (by kernel_rfl) rfl hS ?_
 refine bp 13 rfl rfl (by kernel_rfl) (by kernel_rfl) (by kernel_rfl) rfl hS ?_
 refine bp 14 rfl rfl (by kernel_rfl) (by kernel_rfl) (by kernel_rfl) rfl hS ?_
 refine bp 15 rfl rfl (by kernel_rfl) (by kernel_rfl) (by kernel_rfl) rfl hS ?_
 refine bp 16 rfl rfl (by kernel_rfl) (by kernel_rfl) (by kernel_rfl) rfl hS ?_
 refine bp 17 rfl rfl (by kernel_rfl) (by kernel_rfl) (by kernel_rfl) rfl hS ?_
 refine bp 18 rfl rfl (by kernel_rfl) (by kernel_rfl) (by kernel_rfl) rfl hS ?_
 refine bp 19 rfl rfl (by kernel_rfl) (by kernel_rfl) (by kernel_rfl) rfl hS ?_
 refine bp 20 rfl rfl (by kernel_rfl) (by kernel_rfl) (by kernel_rfl) rfl hS ?_
 refine bp 21 rfl rfl (by kernel_rfl) (by kernel_rfl) (by kernel_rfl) rfl hS ?_
 refine aj 22 rfl rfl (by kernel_rfl) (by kernel_rfl) (by kernel_rfl) rfl hS (aT rfl rfl) ?_
 refine cg (by kernel_rfl) ?_; clear hS
 refine ab (bR rfl (ae (ah (aa rfl (ai rfl) (aa rfl (ai rfl) (ag (ab (av (bj (aD (aD (bj (aD (au (.inl rfl) (.cons (ak rfl) (.cons (ak rfl) .nil)) ?_))))))))))))))
 have hS : ew rs (k + 1) = none := by
  rw [hst, if_neg]
  rintro ⟨q1, q2⟩
  rw [← hE] at q2
  simp_all
 have hN : ez rs = none := by rw [hD, oj hS hk1]; rfl
 rw [hN]
 refine ⟨_, ⟨none, [], rfl, rfl, (fun _ => ⟨rfl, rfl⟩), (fun x hx => by cases hx)⟩, ?_⟩
 simp only [List.nil_append]
 exact inferInstance
 intro g7_8
 refine aj 8 rfl rfl (by kernel_rfl) (by kernel_rfl) (by kernel_rfl) rfl hS (ac rfl) ?_
 refine aj 9 rfl rfl (by kernel_rfl) (by kernel_rfl) (by kernel_rfl) rfl hS (ac rfl) ?_
 refine aj 10 rfl rfl (by kernel_rfl) (by kernel_rfl) (by kernel_rfl) rfl hS (ac rfl) ?_
 refine aj 11 rfl rfl (by kernel_rfl) (by kernel_rfl) (by kernel_rfl) rfl hS (bY g5 gV rfl rfl rfl hk1 (by first | exact Nat.zero_add _ | rfl)) ?_
 refine aj 12 rfl rfl (by kernel_rfl) (by kernel_rfl) (by kernel_rfl) rfl hS (ao rfl gW rfl az rfl (by first | exact Nat.zero_add _ | rfl)) ?_
 refine aj 13 rfl rfl (by kernel_rfl) (by kernel_rfl) (by kernel_rfl) rfl hS (ap aM rfl (eW (k := 0) (j := 1) rfl rfl)) ?_
 refine aj 14 rfl rfl (by kernel_rfl) (by kernel_rfl) (by kernel_rfl) rfl hS (ac rfl) ?_
 refine aj 15 rfl rfl (by kernel_rfl) (by kernel_rfl) (by kernel_rfl) rfl hS (ac rfl) ?_
 refine aj 16 rfl rfl (by kernel_rfl) (by kernel_rfl) (by kernel_rfl) rfl hS (bY g5 gV rfl rfl rfl hk1 (by first | exact Nat.zero_add _ | rfl)) ?_
 refine aj 17 rfl rfl (by kernel_rfl) (by kernel_rfl) (by kernel_rfl) rfl hS (ao rfl gW rfl az rfl (by first | exact Nat.zero_add _ | rfl)) ?_
 refine aj 18 rfl rfl (by kernel_rfl) (by kernel_rfl) (by kernel_rfl) rfl hS (ap aM rfl (eW (k := 0) (j := 2) rfl rfl)) ?_
 refine aj 19 rfl rfl (by kernel_rfl) (by kernel_rfl) (by kernel_rfl) rfl hS (ac rfl) ?_
 refine bB 20 (by kernel_rfl) rfl rfl (bz call196 rfl (ux W0 _ bt L (by omega) x.2.1 x.2.2 k)) rfl ?_; clear hS
 rintro _ B_ ⟨rfl, hB_⟩
 obtain rfl := hB_.symm
 refine ⟨(df hc.weak aK), fun hS => ?_⟩
 refine aj 21 rfl rfl (by kernel_rfl) (by kernel_rfl) (by kernel_rfl) rfl hS (co rfl rfl) ?_
 refine aj 22 rfl rfl (by kernel_rfl) (by kernel_rfl) (by kernel_rfl) rfl hS (aJ rfl rfl) ?_
 refine cg (by kernel_rfl) ?_; clear hS
 refine ab ?_
 refine ax rfl ?_ ?_
 intro c7
 refine ae (ah (aa rfl (ai rfl) (aa rfl (ai rfl) (ag (ab (av (bj (aD (aD (bj (aD (au (.inl rfl) (.cons (ak rfl) (.cons (ak rfl) .nil)) ?_))))))))))))
 have hS : ew rs (k + 1) = none := by
  rw [hst, if_neg]
  rintro ⟨q1, q2⟩
  rw [← hE] at q2
  simp_all
 have hN : ez rs = none := by rw [hD, oj hS hk1]; rfl
 rw [hN]
 refine ⟨_, ⟨none, [], rfl, rfl, (fun _ => ⟨rfl, rfl⟩), (fun x hx => by cases hx)⟩, ?_⟩
 simp only [List.nil_append]
 exact inferInstance
 intro c7
 refine aB (bF (ab ?_))
 have hgo : dw x.1 = true ∧ dr y.1 32 x.2.1 x.2.2 k = 0 := by
  rw [← hE]; simp_all
 rw [if_pos hgo] at hst
 refine ah (aa rfl (ac rfl) ?_)
 refine aa rfl (bC rfl rfl (by first | exact aW (by omega) | rfl)) ?_
 refine aa rfl (ai rfl) (ag (ab ?_))
 refine cp (k + 1, fW L x.2.1 x.2.2 k) ?_ ?_ ?_ ?_
 exact ⟨by omega, qn.trans hL, _, hst, tW hRT (by rw [hL]; rfl) (by decide) _ _ _⟩
 omega
 · repeat (first | exact aX | refine aU rfl ?_)
 exact inferInstance
 intro c5
 refine bX (bi (bi (bZ (ab (ae ?_)))))
 obtain rfl : k = rs.length := by omega
 refine ah (am rfl (lU g5 gV rfl) ?_)
 rintro _ _ ⟨be, rfl, rfl⟩
 refine aa rfl (ac rfl) ?_
 refine am rfl (to (sz := 3) (by_ := 24) (info := Tryz.t144) g5 (by kernel_rfl) rfl rfl rfl rfl (by decide) rfl rfl ((hs.weak.src vm (fun _ => trivial)).imp (fun h => by rw [h]; rfl) (fun h => h)) (dm vm rs) (BI rs) (by simp only [maxLen]; omega) (by omega)) ?_
 rintro _ _ ⟨aN, cN, rfl, rfl⟩
 rw [List.nil_append, Nat.zero_add]
 refine aa rfl (ac rfl) ?_
 refine aa rfl (bQ (l' := .slice aN rs.length cN :: .pointer (some ⟨bt, 0, none⟩) :: List.replicate 512 (.int .u8 0)) underlying352 BJ (aE ie (aE sizeOf345 (aE sizeOf350 bP))) (bn rfl ie rfl rfl (by simp) rfl (bn rfl sizeOf345 rfl rfl (by simp) rfl bO))) ?_
 refine am rfl (bL rfl) ?_
 rintro _ _ ⟨d, rfl, rfl⟩
 refine aa rfl (ai rfl) (aa rfl (ai rfl) (ag (ab (av (au (.inl rfl) (.cons (ak rfl) (.cons (ak rfl) .nil)) ?_)))))
 have hN : ez rs = some ⟨y.1, y.2, List.replicate 32 gq⟩ := by rw [hD, hdn]; rfl
 rw [hN]
 refine ⟨_, ⟨_, [ri d ⟨y.1, y.2, List.replicate 32 gq⟩], rfl, rfl, (fun q => by cases q), (fun x hx => by cases hx; exact ⟨d, rfl, rfl⟩)⟩, ?_⟩
 simp only [List.cons_append, List.nil_append]
 exact BH (x := ⟨y.1, y.2, List.replicate 32 gq⟩) (rl := rs) hRT hL (by rw [vn rs (Nat.le_refl _) hdn, List.take_of_length_le (Nat.le_refl _)]) (by kernel_rfl) rfl rfl
theorem BL (cats who quota : Int) (h1 : 0 ≤ cats ∧ cats ≤ 8) (h2 : -1 ≤ who ∧ who < 4) (h3 : 0 ≤ quota ∧ quota ≤ 64) : aC Tryz.prog W0 84 [.int .i64 cats, .int .i64 who, .int .i64 quota] R (fun v B => ∃ b, v = .tuple #[pV b, .int .i64 0] ∧ B = R) := by
 refine aF func84 ntmps84 rfl rfl ?_
 refine ae (ah (aa rfl (ai rfl) (aa rfl (ai rfl) (ag (ab (ae (ae (ah (aa rfl (ac rfl) (aa rfl (aY rfl rfl) (aa rfl (ac rfl) ?_)))))))))))
 refine bA rfl rfl rfl ?_ ?_
 intro g1_3
 omega
 intro g1_3
 refine aa rfl (ac rfl) (ar rfl rfl (aa rfl (cd rfl rfl) (aa rfl (aJ rfl rfl) (aa rfl (ac rfl) ?_))))
 refine bA rfl rfl rfl ?_ ?_
 intro g1_7
 omega
 intro g1_7
 refine aa rfl (ac rfl) (ar rfl rfl (aa rfl (aY rfl rfl) (aa rfl (aJ rfl rfl) (aa rfl (ac rfl) ?_))))
 refine bA rfl rfl rfl ?_ ?_
 intro g1_11
 omega
 intro g1_11
 refine aa rfl (ac rfl) (ar rfl rfl (aa rfl (cF rfl rfl) (aa rfl (aJ rfl rfl) (aa rfl (ac rfl) ?_))))
 refine bA rfl rfl rfl ?_ ?_
 intro g1_15
 omega
 intro g1_15
 refine aa rfl (ac rfl) (ar rfl rfl (aa rfl (aY rfl rfl) (aa rfl (aJ rfl rfl) (aa rfl (ac rfl) ?_))))
 refine bA rfl rfl rfl ?_ ?_
 intro g1_19
 omega
 intro g1_19
 refine aa rfl (ac rfl) (ar rfl rfl (aa rfl (cd rfl rfl) (aa rfl (aJ rfl rfl) (ag (ab ?_)))))
 refine ax rfl ?_ ?_
 intro c1
 omega
 intro c1
 refine aB (ab (ae (ah (aa rfl (ac rfl) (aa rfl (ac rfl) (aa rfl (ac rfl) (aa rfl (bQ underlying359 zeroValue359 (aE az (aE az (aE az (aE sizeOf54 (aE az bP))))) (bn rfl az rfl rfl (Nat.le_of_ble_eq_true rfl) SetL.eq (bn rfl az rfl rfl (Nat.le_of_ble_eq_true rfl) SetL.eq (bn rfl az rfl rfl (Nat.le_of_ble_eq_true rfl) SetL.eq bO)))) ?_)))))))
 refine am rfl (bL rfl) ?_
 rintro _ _ ⟨b, rfl, rfl⟩
 refine aa rfl (ai rfl) (aa rfl (ai rfl) (ag (ab (av (au (.inl rfl) (.cons (ak rfl) (.cons (ak rfl) .nil)) ?_)))))
 exact ⟨_, ⟨b, rfl, rfl⟩, inferInstance⟩
@[reducible] def kg (c : Cfg) (qs pb : Nat) (x y z : Nat) : List Value := cj c ++ [pV qs, pV pb, pV x, pV y, pV z]
theorem BM (W0 : World) (R : List HP) (c : Cfg) (h : CfK W0 c) (hr : rt c = true) :
    aC Tryz.prog W0 32 [.agg (cj c).toArray, .slice none 0 0] R
      (fun v B => ∃ wb qs pb x y z, v = .tuple #[pV wb, .int .i64 0] ∧ B = pt wb (aw (kg c qs pb x y z) 110) :: cT pb (qs, cX c (bD c)) :: cD qs (List.replicate (bD c) bT) :: R) := by
 have hck : gn c = 0 := of_decide_eq_true hr
 have hfn : gJ c = bD c := by rw [gJ, if_pos hr]
 have hf32 := uI c
 have hR := fH hr
 have hnd := hR.nd
 have hg4 := hR.g4
 have hn : 0 < bD c ∧ bD c ≤ 32 := by rw [bD]; omega
 have hlr : (List.replicate (bD c) bT).length = bD c := by simp
 obtain ⟨z1, z2, z3⟩ := vh hr
 obtain ⟨dx, hdx⟩ := vf hr
 obtain ⟨hrl, hrb⟩ := qp (kW hr).2.2.2.1
 have hpo := vg hr
 refine aF func32 ntmps32 rfl rfl ?_
 refine ae (ah (am rfl (bL rfl) ?_))
 rintro _ _ ⟨b2, rfl, rfl⟩
 refine aa rfl (ai rfl) (aa rfl (ai rfl) (ag (ab (ae (ah (aa rfl (cu cm bS rfl rfl) ?_))))))
 refine am rfl (aS call75 rfl (uA W0 _ c h.ok)) ?_
 rintro _ B_ ⟨at_, rfl, hB_⟩
 obtain rfl := hB_.symm
 rw [hck]
 refine aa rfl (ac rfl) (aa rfl (aZ rfl rfl) (aa rfl (aZ rfl rfl) (aa rfl (ai rfl) (aa rfl (ai rfl) (ag (ab (ae (ae (ah (aa rfl (ac rfl) (aa rfl (co rfl rfl) (ag (ab ?_)))))))))))))
 refine ax rfl ?_ ?_
 intro c2
 exact absurd c2 (by decide)
 intro c2
 refine aB (ab (ae (ah (aa rfl (cu cm bS rfl rfl) ?_))))
 refine am rfl (aS call77 rfl (AL W0 _ c h.ok)) ?_
 rintro _ B_ ⟨rfl, hB_⟩
 obtain rfl := hB_.symm
 rw [hfn]
 refine am rfl (aS call76 rfl (zM W0 _ (bD c) (by omega))) ?_
 rintro _ B_ ⟨qs, rfl, hB_⟩
 obtain rfl := hB_.symm
 refine aa rfl (ac rfl) (aa rfl (aZ rfl rfl) (aa rfl (aZ rfl rfl) (aa rfl (ai rfl) (aa rfl (ai rfl) (ag (ab (ae (ah (aa rfl (ac rfl) ?_)))))))))
 refine am rfl (bz call78 rfl (Ac W0 _ qs (List.replicate (bD c) bT) (by rw [hlr]; omega) (by rw [hlr]; omega))) ?_
 rintro _ B_ ⟨pb, rfl, hB_⟩
 obtain rfl := hB_.symm
 rw [hlr, ← uD]
 refine aa rfl (ac rfl) (aa rfl (aZ rfl rfl) (aa rfl (aZ rfl rfl) (aa rfl (ai rfl) (aa rfl (ai rfl) (ag (ab (ae (ae (ah (aa rfl (ai rfl) (ag (ab (b0 ?_)))))))))))))
 refine cC (fun f : Nat => f ≤ bD c) (fun f => [(1, .slice none 0 0), (2, pV b2), (8, pV qs), (10, pV pb), (12, .int .i64 f)]) (fun f => pt b2 (d7 c) :: cT pb (qs, cX c f) :: cD qs (List.replicate (bD c) bT) :: R) (fun f => bD c - f) 0 ?_ ?_ ?_ ?_
 exact Nat.zero_le _
 · repeat (first | exact aX | refine aU rfl ?_)
 exact inferInstance
 intro f hf
 refine ae (ae ?_)
 refine k0 (qs := qs) fun a2 c2 vs hv => ?_
 rw [hlr]
 refine ah (aa rfl (ac rfl) (aa rfl (ac rfl) (aa rfl (aH rfl) ?_)))
 refine aa rfl (ao rfl gX rfl g6 rfl (by first | exact Nat.zero_add _ | rfl)) ?_
 refine aa rfl (ap iG rfl (aA rfl)) ?_
 refine aa rfl (bq gL rfl) (aa rfl (aY rfl rfl) (ag (ab ?_)))
 refine ax rfl ?_ ?_
 intro c7
 refine aB (ab ?_)
 refine gM (fun _ : Unit => f < bD c) (fun _ => [(1, .slice none 0 0), (2, pV b2), (8, pV qs), (10, pV pb), (12, .int .i64 f)]) (fun _ => pt b2 (d7 c) :: cT pb (qs, cX c (f + 1)) :: cD qs (List.replicate (bD c) bT) :: R) ?_ ?_
 skip
 refine b0 (ae ?_)
 have hf1 : f < bD c := by omega
 refine fJ (B := cD qs (List.replicate (bD c) bT) :: pt b2 (d7 c) :: cT pb (qs, cX c f) :: R) (by have := r9 (R := pt b2 (d7 c) :: cT pb (qs, cX c f) :: R) (qs := qs) (c := c2) (a := a2) hv; rw [hlr] at this; exact this) ?_
 have hos := lh (i := (f4 c f).getD 0) hr hf1
 have hon := vk hr hf1
 refine ah (aa rfl (cu cm bS rfl rfl) ?_)
 refine aa rfl (ac rfl) ?_
 refine am rfl (aS call79 rfl (AM W0 _ c h f hr (by rw [bD] at hf1; omega))) ?_
 rintro _ B_ ⟨rfl, hB_⟩
 obtain rfl := hB_.symm
 refine am rfl (dd iT) ?_
 rintro _ _ ⟨b9, rfl, rfl⟩
 refine bE (cK gv rfl rfl rfl rfl rfl) ?_
 rintro _ _ rfl
 refine ag (ab (ae (ah ?_)))
 refine aa rfl (ao rfl iU rfl az rfl (by first | exact Nat.zero_add _ | rfl)) ?_
 refine aa rfl (ap aM rfl (aA rfl)) ?_
 refine aa rfl (cz rfl rfl) (ag (ab ?_))
 refine ax rfl ?_ ?_
 intro c10
 obtain ⟨i, hi⟩ : ∃ i, f4 c f = some i := by
  cases e : f4 c f with
  | some i => exact ⟨i, rfl⟩
  | none => have := hon e; rw [this] at c10; exact absurd c10 (by decide)
 have hov := lh hr hf1 hi
 have hi4 := ((nT hR).1 hi).1
 have hps := uE hf1 hi
 refine ah (aa rfl (ac rfl) (aa rfl (ac rfl) ?_))
 refine aa rfl (ao rfl iU rfl az rfl (by first | exact Nat.zero_add _ | rfl)) ?_
 refine aa rfl (ap aM rfl (aA (by rw [hov]; rfl : (nW (iC c f))[1]? = some (.int .i64 (i : Int))))) ?_
 refine am rfl (gN call80 rfl (Af W0 _ pb qs (cX c f) (List.replicate (bD c) bT) f i (by rw [l8]; exact hf1) (by rw [hlr]; exact hf1) (by omega) (by rw [nU hf1, if_neg (by omega)]))) ?_
 rintro _ B_ ⟨rfl, hB_⟩
 obtain rfl := hB_.symm
 rw [vj, ← hps]
 refine ag (bF (ab ?_))
 refine dK () ?_ ?_ ?_
 exact hf1
 · repeat (first | exact aX | refine aU rfl ?_)
 exact inferInstance
 intro c10
 have hps : cX c (f + 1) = cX c f := by
  cases e : f4 c f with
  | none => exact uF e
  | some i => have := lh hr hf1 e; rw [this] at c10; exact absurd rfl c10
 refine aB (bF (ab ?_))
 refine dK () ?_ ?_ ?_
 exact hf1
 · repeat (first | exact aX | refine aU rfl ?_)
 rw [hps]
 exact inferInstance
 intro _ hf1
 refine ah (aa rfl (ac rfl) ?_)
 refine aa rfl (bC rfl rfl (by first | exact aW (by omega) | rfl)) ?_
 refine aa rfl (ai rfl) (ag (ab ?_))
 refine cp (f + 1) ?_ ?_ ?_ ?_
 omega
 omega
 · repeat (first | exact aX | refine aU rfl ?_)
 exact inferInstance
 intro c7
 refine bX (bi (bi (bZ (ab (ae ?_)))))
 obtain rfl : f = bD c := by omega
 refine fJ (B := cD qs (List.replicate (bD c) bT) :: pt b2 (d7 c) :: cT pb (qs, cX c (bD c)) :: R) (by have := r9 (R := pt b2 (d7 c) :: cT pb (qs, cX c (bD c)) :: R) (qs := qs) (c := c2) (a := a2) hv; rw [hlr] at this; exact this) ?_
 refine ah ?_
 refine aa rfl (ao rfl bw rfl ie rfl (by first | exact Nat.zero_add _ | rfl)) ?_
 refine aa rfl (ap ks rfl (aA rfl)) ?_
 refine am rfl (aS call81 rfl (BK c.ra c.rc c.rl (h.ok.r _) (by omega) (fun x hx => by have := (hrb x hx).2; omega))) ?_
 rintro _ B_ ⟨p, Y, rfl, hB_, _, hY⟩
 obtain rfl := hB_.symm
 obtain ⟨db, rfl, rfl⟩ := hY dx hdx
 rw [hdx, show (if (some dx).isSome = true then (0 : Int) else 14) = 0 from rfl]
 simp only [List.cons_append, List.nil_append]
 refine aa rfl (ac rfl) (aa rfl (aZ rfl rfl) (aa rfl (aZ rfl rfl) (aa rfl (ai rfl) (aa rfl (ai rfl) (ag (ab (ae (ae (ah (aa rfl (ai rfl) (ag (ab (b0 ?_)))))))))))))
 refine cC (fun _ : Unit => True) (fun _ => [(1, .slice none 0 0), (2, pV b2), (8, pV qs), (10, pV pb), (14, pV db), (16, .int .i64 0)]) (fun _ => pt b2 (d7 c) :: cT pb (qs, cX c (bD c)) :: cD qs (List.replicate (bD c) bT) :: R) (fun _ => 0) () ?_ ?_ ?_ ?_
 trivial
 · repeat (first | exact aX | refine aU rfl ?_)
 exact inferInstance
 intro _ _
 refine ae (ae (ah (aa rfl (ac rfl) (aa rfl (ac rfl) (aa rfl (bq CF rfl) (aa rfl (aY rfl rfl) (ag (ab ?_))))))))
 refine ax rfl ?_ ?_
 intro c14
 omega
 intro c14
 refine bX (bi (bi (bZ (ab (ae (ah ?_))))))
 refine aa rfl (ao rfl bw rfl fh rfl (by first | exact Nat.zero_add _ | rfl)) ?_
 refine aa rfl (ap ig rfl (aA rfl)) ?_
 refine am rfl (aS call83 rfl (BE c.pl c.pa c.pl.length c.pc rfl (h.ok.p _))) ?_
 rintro _ B_ (⟨_, qb, rfl, hB_⟩ | ⟨hno, _, _⟩)
 rotate_left
 rw [hpo] at hno; cases hno
 obtain rfl := hB_.symm
 refine aa rfl (ac rfl) (aa rfl (aZ rfl rfl) (aa rfl (aZ rfl rfl) (aa rfl (ai rfl) (aa rfl (ai rfl) (ag (ab (ae (ah ?_))))))))
 refine aa rfl (ao rfl bw rfl az rfl (by first | exact Nat.zero_add _ | rfl)) ?_
 refine aa rfl (ap aM rfl (aA rfl)) ?_
 refine aa rfl (ao rfl bw rfl az rfl (by first | exact Nat.zero_add _ | rfl)) ?_
 refine aa rfl (ap aM rfl (aA rfl)) ?_
 refine aa rfl (ao rfl bw rfl az rfl (by first | exact Nat.zero_add _ | rfl)) ?_
 refine aa rfl (ap aM rfl (aA rfl)) ?_
 refine am rfl (aS call84 rfl (BL c.cats c.gate c.quota z1 z2 z3)) ?_
 rintro _ B_ ⟨gb, rfl, hB_⟩
 obtain rfl := hB_.symm
 refine aa rfl (ac rfl) (aa rfl (aZ rfl rfl) (aa rfl (aZ rfl rfl) (aa rfl (ai rfl) (aa rfl (ai rfl) (ag (ab (ae (ah (aa rfl (cu cm bS rfl rfl) ?_)))))))))
 refine aa rfl (ac rfl) (aa rfl (ac rfl) (aa rfl (ac rfl) (aa rfl (ac rfl) (aa rfl (ac rfl) (aa rfl (bQ wq zeroValue110 (aE bS (aE jf (aE mN (aE sizeOf106 (aE sizeOf107 (aE sizeOf108 bP)))))) (it rfl bS rfl rfl (Nat.le_of_ble_eq_true rfl) SetRL.eq (bn rfl jf rfl rfl (Nat.le_of_ble_eq_true rfl) SetL.eq (bn rfl mN rfl rfl (Nat.le_of_ble_eq_true rfl) SetL.eq (bn rfl sizeOf106 rfl rfl (Nat.le_of_ble_eq_true rfl) SetL.eq (bn rfl sizeOf107 rfl rfl (Nat.le_of_ble_eq_true rfl) SetL.eq (bn rfl sizeOf108 rfl rfl (Nat.le_of_ble_eq_true rfl) SetL.eq bO))))))) ?_)))))
 refine am rfl (bL rfl) ?_
 rintro _ _ ⟨wb, rfl, rfl⟩
 refine aa rfl (ai rfl) (aa rfl (ai rfl) (ag (ab (av (au (.inl rfl) (.cons (ak rfl) (.cons (ak rfl) .nil)) ?_)))))
 exact ⟨_, ⟨wb, qs, pb, db, qb, gb, rfl, rfl⟩, inferInstance⟩
theorem mo (hb : Nat) (c : Cfg) (ps pb db qb gb : Nat) : aC Tryz.prog W0 36 [pV hb] (pt hb (aw (dV c ps pb db qb gb) 68) :: R) (fun v B => v = .bool false ∧ B = pt hb (aw (dV c ps pb db qb gb) 68) :: R) := by
 refine aF wt ntmps36 rfl rfl ?_
 refine ae (ah (aa rfl (ai rfl) (ag (ab (ae (ah (aa rfl (ac rfl) (aa rfl (dl oM rfl rfl) (aa rfl (ac rfl) ?_)))))))))
 refine bA rfl rfl rfl ?_ ?_
 intro g1_3
 cases g1_3
 intro g1_3
 refine aa rfl (ac rfl) (ar rfl rfl (aa rfl (aH rfl) (ar rfl rfl ?_)))
 refine aa rfl (ao rfl iW rfl ic rfl (by first | exact Nat.zero_add _ | rfl)) ?_
 refine ar rfl rfl (aa rfl (ap kl rfl (aA rfl)) ?_)
 refine ar rfl rfl (aa rfl (dl ov rfl rfl) (aa rfl (aJ rfl rfl) (aa rfl (ai rfl) (ag (ab (av (au (.inl rfl) (.cons (ak rfl) .nil) ?_)))))))
 exact ⟨_, ⟨rfl, rfl⟩, inferInstance⟩
theorem BN (hb : Nat) (c : Cfg) (ps pb db qb gb : Nat) : aC Tryz.prog W0 21 [pV hb] (pt hb (aw (dV c ps pb db qb gb) 68) :: R) (fun v B => v = pV ps ∧ B = pt hb (aw (dV c ps pb db qb gb) 68) :: R) := by
 refine aF func21 ntmps21 rfl rfl ?_
 refine ae (ah (aa rfl (ai rfl) (ag (ab (ae (ae (ah (aa rfl (ac rfl) (am rfl (bz io rfl (mo hb c ps pb db qb gb)) ?_)))))))))
 rintro _ B_ ⟨rfl, hB_⟩
 obtain rfl := hB_.symm
 refine ag (ab ?_)
 refine ax rfl ?_ ?_
 intro c1
 exact absurd c1 (by decide)
 intro c1
 refine aB (ab (ae (ah (aa rfl (ac rfl) (aa rfl (aH rfl) ?_)))))
 refine aa rfl (ao rfl iW rfl ic rfl (by first | exact Nat.zero_add _ | rfl)) ?_
 refine aa rfl (ap kl rfl (aA rfl)) ?_
 refine aa rfl (ai rfl) (ag (ab (av (au (.inl rfl) (.cons (ak rfl) .nil) ?_))))
 exact ⟨_, ⟨rfl, rfl⟩, inferInstance⟩
theorem BO (hb : Nat) (c : Cfg) (ps pb db qb gb : Nat) : aC Tryz.prog W0 22 [pV hb] (pt hb (aw (dV c ps pb db qb gb) 68) :: R) (fun v B => v = pV pb ∧ B = pt hb (aw (dV c ps pb db qb gb) 68) :: R) := by
 refine aF func22 ntmps22 rfl rfl ?_
 refine ae (ah (aa rfl (ai rfl) (ag (ab (ae (ae (ah (aa rfl (ac rfl) (am rfl (bz io rfl (mo hb c ps pb db qb gb)) ?_)))))))))
 rintro _ B_ ⟨rfl, hB_⟩
 obtain rfl := hB_.symm
 refine ag (ab ?_)
 refine ax rfl ?_ ?_
 intro c1
 exact absurd c1 (by decide)
 intro c1
 refine aB (ab (ae (ah (aa rfl (ac rfl) (aa rfl (aH rfl) ?_)))))
 refine aa rfl (ao rfl iW rfl mM rfl (by first | exact Nat.zero_add _ | rfl)) ?_
 refine aa rfl (ap vU rfl (aA rfl)) ?_
 refine aa rfl (ai rfl) (ag (ab (av (au (.inl rfl) (.cons (ak rfl) .nil) ?_))))
 exact ⟨_, ⟨rfl, rfl⟩, inferInstance⟩
structure GC (rb vb pv tr : Nat) (cs : List Value) : Prop where
  len : cs.length = 28
  cr : cs[0]? = some (pV rb)
  cv : cs[6]? = some (pV vb)
  rd : ∀ k, k < 4 → cs[9 + k * 1]? = some (wV 0)
  cw : cs[24]? = some (pV pv)
  ct : cs[26]? = some (pV tr)
  cc : cs[27]? = some (.int .i64 0)
structure Gs where
  rl : List Nat
  pc : Nat
  es : List Evt
  fresh : Bool
def fu (gb : Nat) (x : Gs) : HP := chk (fun C => ∃ cs rb vb pv tr o, GC rb vb pv tr cs ∧ x.rl.length = 16 ∧ (x.fresh = true → o = ml) ∧ C = [pt gb (aw cs 142), pt rb (dh x.rl x.pc), dU tr x.es, pt vb o])
def fX : Gs := ⟨List.replicate 16 0, 0, [], true⟩
theorem BQ {R : List HP} {gb rb vb pv tr : Nat} {cs : List Value} {o : Obj} {x : Gs} (h : GC rb vb pv tr cs) (h1 : x.rl.length = 16) (h2 : x.fresh = true → o = ml) : Ent (pt gb (aw cs 142) :: pt rb (dh x.rl x.pc) :: dU tr x.es :: pt vb o :: R) (fu gb x :: R) :=
  eE (R := R) (C := [_, _, _, _]) ⟨cs, rb, vb, pv, tr, o, h, h1, h2, rfl⟩
theorem BR {W0 : World} {N : FSz} {K : Act → World → Prop} {e : bK} {A R : List HP} {gb : Nat} {x : Gs} [hk : Tk fu gb A x R] (h : ∀ cs rb vb pv tr o, GC rb vb pv tr cs → x.rl.length = 16 → (x.fresh = true → o = ml) → aQ W0 N K e (pt gb (aw cs 142) :: pt rb (dh x.rl x.pc) :: dU tr x.es :: pt vb o :: R)) : aQ W0 N K e A :=
  dP (r := fu) (b := gb) (iM fun C hC => by obtain ⟨cs, rb, vb, pv, tr, o, h1, h2, h3, rfl⟩ := hC; exact h cs rb vb pv tr o h1 h2 h3)
theorem BS {x : Bd} {q0 q1 q2 : Nat} {c : Cfg} {i : Nat} {wv : Value} {pb pv bx tr : Nat} : GC x.r x.v pv tr (oi x q0 q1 q2 c i wv pb pv bx tr) := ⟨rfl, rfl, rfl, fun k hk => by
 have : k = 0 ∨ k = 1 ∨ k = 2 ∨ k = 3 := by omega
 rcases this with rfl | rfl | rfl | rfl <;> rfl, rfl, rfl, rfl⟩
theorem BU {l : List HP} {x : HP} {R : List HP} : Ent (x :: kH 2 (bG l) :: R) (kH 2 (bG (l ++ [x])) :: R) := uZ (l := l) (x := x) (R := R)
theorem rj {who : Nat} {x : Im} : ∀ n, (cZ who [] n x).fr = x.fr
 | 0 => rfl
 | n + 1 => by
  rw [cZ, fm]
  split
  show eF _ (cH [] n) 0 _ = _
  rw [show cH [] n = [] by simp [cH]]
  exact rj n
  exact rj n
theorem BV {c : Cfg} {i : Nat} {fr : List bW} {po : Po} : (eu c i [] fr po).fr = fr := by
 rw [eu, show bH [] (cM c i).2.1.toNat = [] by simp [bH]]; exact rj _
theorem BW {c : Cfg} {i j : Nat} {ws : List Nat} {fr : List bW} {po : Po} (h : j ≠ i) : bJ (eu c i ws fr po).po j = bJ po j := t0 h _
theorem BX {l : List Nat} {g : Nat} {R : List HP} : Ent (fu g fX :: kH 2 (bG (l.map fun g => fu g fX)) :: R) (kH 2 (bG ((l ++ [g]).map fun g => fu g fX)) :: R) := by
 rw [List.map_append]; exact BU
abbrev or (c : Cfg) (hb ps pb db qb gb : Nat) (a : Option Addr) (cap : Nat) (gbs : List Nat) (R : List HP) : List HP := pt hb (aw (dV c ps pb db qb gb) 68) :: pt gb (jt c.cats c.gate c.quota) :: cy ps (List.replicate (bD c) bT) :: osl 50 1 (.slice a gbs.length cap) (gbs.map pV) :: kH 2 (bG (gbs.map fun g => fu g fX)) :: R
theorem BY {A B : List HP} (k : Ent A B) : Ent A (kH 2 (bG []) :: B) := (g8 (A := []) (R := A)).trans (Ent.cons k)
theorem BZ {c : Cfg} {hb ps pb db qb gb wb qs rpb x y z b3 : Nat} {dk : Dk} {R : List HP} : Ent (pt wb (aw (kg c qs rpb x y z) 110) :: cT rpb (qs, cX c (bD c)) :: cD qs (List.replicate (bD c) bT) :: pt hb (aw (dV c ps pb db qb gb) 68) :: cy ps (List.replicate (bD c) bT) :: d6 pb (ps, cX c (bD c)) :: j9 db dk :: m7 qb (fp c.pl) :: pt gb (jt c.cats c.gate c.quota) :: pt b3 (d7 c) :: R)
    (pt b3 (d7 c) :: or c hb ps pb db qb gb none 0 [] (d6 pb (ps, cX c (bD c)) :: pt wb (aw (kg c qs rpb x y z) 110) :: cT rpb (qs, cX c (bD c)) :: cD qs (List.replicate (bD c) bT) :: osl 101 1 (.slice none 0 0) [] :: R)) := by
 refine Ent.trans (B := pt b3 (d7 c) :: pt hb (aw (dV c ps pb db qb gb) 68) :: pt gb (jt c.cats c.gate c.quota) :: cy ps (List.replicate (bD c) bT) :: d6 pb (ps, cX c (bD c)) :: pt wb (aw (kg c qs rpb x y z) 110) :: cT rpb (qs, cX c (bD c)) :: cD qs (List.replicate (bD c) bT) :: R) inferInstance ?_
 refine Ent.cons (Ent.cons (Ent.cons (Ent.cons ?_)))
 refine fb (E := 50) (sz := 1) (k := ?_)
 refine BY ?_
 exact Ent.cons (Ent.cons (Ent.cons (Ent.cons (fb (E := 101) (sz := 1)))))
theorem C0 (W0 : World) (R : List HP) (c : Cfg) (h : CfK W0 c) (hr : rt c = true) :
    aC Tryz.prog W0 12 [.agg (cj c).toArray, .slice none 0 0, .slice none 0 0] R
      (fun v B => ∃ hb ps pb db qb gb wb a cap a2 n2 cap2 gbs, gbs.length = c.gl.length ∧ v = .tuple #[pV hb, .slice a gbs.length cap, pV wb, .slice a2 n2 cap2, .bool true] ∧ B = or c hb ps pb db qb gb a cap gbs R) := by
 have hR := fH hr
 have hnd := hR.nd
 have hg4 := hR.g4
 have hn : 0 < bD c ∧ bD c ≤ 32 := by rw [bD]; omega
 have hlr : (List.replicate (bD c) bT).length = bD c := by simp
 refine aF func12 ntmps12 rfl rfl ?_
 refine ae (ah (am rfl (bL rfl) ?_))
 rintro _ _ ⟨bc, rfl, rfl⟩
 refine aa rfl (ai rfl) (aa rfl (ai rfl) (aa rfl (ai rfl) (aa rfl (ai rfl) (aa rfl (ai rfl) (ag (ab (ae (ah (aa rfl (cu cm bS rfl rfl) ?_)))))))))
 refine aa rfl (ac rfl) (am rfl (aS call19 rfl (vl W0 _ c h hr)) ?_)
 rintro _ B_ ⟨hb, ps, pb, db, qb, gb, dx, rfl, hB_⟩
 obtain rfl := hB_.symm
 refine aa rfl (ac rfl) (aa rfl (aZ rfl rfl) (aa rfl (aZ rfl rfl) (aa rfl (ai rfl) (aa rfl (ai rfl) (ag (ab (ae (ah (aa rfl (cu cm bS rfl rfl) ?_)))))))))
 refine aa rfl (ac rfl) (am rfl (aS call32 rfl (BM W0 _ c h hr)) ?_)
 rintro _ B_ ⟨wb, qs, rpb, x, y, z, rfl, hB_⟩
 obtain rfl := hB_.symm
 refine aa rfl (ac rfl) (aa rfl (aZ rfl rfl) (aa rfl (aZ rfl rfl) (aa rfl (ai rfl) (aa rfl (ai rfl) (ag (ab (ae (ae (ah (aa rfl (ac rfl) (aa rfl (ac rfl) (aa rfl (co rfl rfl) (aa rfl (ac rfl) ?_)))))))))))))
 refine bA rfl rfl rfl ?_ ?_
 intro g3_4
 exact absurd g3_4 (by decide)
 intro g3_4
 refine aa rfl (ac rfl) (ar rfl rfl (aa rfl (dl oM rfl rfl) (ar rfl rfl (aa rfl (ac rfl) (ar rfl rfl (aa rfl (dl CH rfl rfl) (ar rfl rfl (aa rfl (wK CI rfl rfl) ?_))))))))
 refine aa rfl (aJ rfl rfl) (ag (ab ?_))
 refine ax rfl ?_ ?_
 intro c3
 exact absurd rfl c3
 intro c3
 refine aB (ab (ae (ae (ah (aa rfl (ac rfl) (aa rfl (dl CH rfl rfl) (ag (ab ?_))))))))
 refine ax rfl ?_ ?_
 intro c5
 cases c5
 intro c5
 refine aB (ab (ae (ah (aa rfl (ai rfl) (ag (ab (ae (ah (aa rfl (ai rfl) (ag (ab (ae (ae (ah (aa rfl (ai rfl) (ag (ab (b0 ?_))))))))))))))))))
 refine cC (fun X : Nat × List Nat × List Nat × (Option Addr × Nat) × (Option Addr × Nat) × Po => X.1 ≤ c.gl.length ∧ X.2.1.length = X.1 ∧ X.2.2.1.length = X.1 ∧ PoOk X.2.2.2.2.2 ∧ X.2.2.2.2.2.length = bD c ∧ ∀ j, X.1 ≤ j → j < c.gl.length → (cM c j).2.1 ≤ ((bJ X.2.2.2.2.2 j).length : Int)) (fun X => [(2, .slice none 0 0), (3, pV bc), (11, pV hb), (13, pV wb), (15, .slice X.2.2.2.1.1 X.2.1.length X.2.2.2.1.2), (16, .slice X.2.2.2.2.1.1 X.2.2.1.length X.2.2.2.2.1.2), (17, .int .i64 X.1)]) (fun X => pt bc (d7 c) :: or c hb ps pb db qb gb X.2.2.2.1.1 X.2.2.2.1.2 X.2.1 (d6 pb (ps, X.2.2.2.2.2) :: pt wb (aw (kg c qs rpb x y z) 110) :: cT rpb (qs, X.2.2.2.2.2) :: cD qs (List.replicate (bD c) bT) :: osl 101 1 (.slice X.2.2.2.2.1.1 X.2.2.1.length X.2.2.2.2.1.2) (X.2.2.1.map pV) :: R)) (fun X => c.gl.length - X.1) (0, [], [], (none, 0), (none, 0), cX c (bD c)) ?_ ?_ ?_ ?_
 refine ⟨Nat.zero_le _, rfl, rfl, uG hR _, l8 _ _, fun j _ hj => ?_⟩
 have := AH hR hj
 have := hR.gs j hj
 show (cM c j).2.1 ≤ ((bJ (cX c (bD c)) j).length : Int)
 omega
 · repeat (first | exact aX | refine aU rfl ?_)
 exact BZ
 intro ⟨i, gbs, wbs, ⟨a, cap⟩, ⟨a2, cap2⟩, po⟩ ⟨hi, hgl, hwl, hpo, hpl, hfr⟩
 dsimp only at hi hgl hwl hpo hpl hfr ⊢
 refine ae (ae (ah (aa rfl (ac rfl) ?_)))
 refine aa rfl (ao rfl bw rfl du rfl (by first | exact Nat.zero_add _ | rfl)) ?_
 refine aa rfl (ap dy rfl (aA rfl)) ?_
 refine aa rfl (bq dj rfl) (aa rfl (aY rfl rfl) (ag (ab ?_)))
 refine ax rfl ?_ ?_
 intro c10
 refine aB (ab (ae (b0 (ae (ah (aa rfl (ai rfl) (ag (ab (ae (ae (ah (aa rfl (ac rfl) (aa rfl (ac rfl) (aa rfl (bq underlying88 rfl) (aa rfl (aY rfl rfl) (ag (ab ?_)))))))))))))))))
 refine ax rfl ?_ ?_
 intro c13
 omega
 intro c13
 refine aB (ab (ae ?_))
 have hi1 : i < c.gl.length := by omega
 have hlok : ImOk (eu c i [] (List.replicate (bD c) bT) po) := jT (by omega) ⟨eX.new _, hpo, oe, by rw [hlr]; exact hpl⟩
 have hlf := BV (c := c) (i := i) (fr := List.replicate (bD c) bT) (po := po)
 obtain ⟨po2, hpo2⟩ : ∃ po2, (eu c i [] (List.replicate (bD c) bT) po).po = po2 := ⟨_, rfl⟩
 have hlo : ∀ j, j ≠ i → bJ po2 j = bJ po j := fun j hj => by rw [← hpo2]; exact BW hj
 have hok2 : PoOk po2 := by rw [← hpo2]; exact hlok.po
 have hpl2 : po2.length = bD c := by rw [← hpo2, hlok.len, hlf]; exact hlr
 refine cY [(bc, 0, _)] 13 cV rfl (aV aK) (fun hS => ?_)
 refine aj 0 rfl rfl (by kernel_rfl) (by kernel_rfl) (by kernel_rfl) rfl hS (cQ cm bS rfl (dA (k := 0) rfl) rfl) ?_
 refine aj 1 rfl rfl (by kernel_rfl) (by kernel_rfl) (by kernel_rfl) rfl hS (ac rfl) ?_
 refine aj 2 rfl rfl (by kernel_rfl) (by kernel_rfl) (by kernel_rfl) rfl hS (ac rfl) ?_
 refine aj 4 rfl rfl (by kernel_rfl) (by kernel_rfl) (by kernel_rfl) rfl hS (ac rfl) ?_
 refine aj 6 rfl rfl (by kernel_rfl) (by kernel_rfl) (by kernel_rfl) rfl hS (ac rfl) ?_
 refine bB 3 (by kernel_rfl) rfl rfl (bz call21 rfl (BN hb c ps pb db qb gb)) rfl ?_; clear hS
 rintro _ B_ ⟨rfl, hB_⟩
 obtain rfl := hB_.symm
 refine ⟨(aV aK), fun hS => ?_⟩
 refine bB 5 (by kernel_rfl) rfl rfl (bz call22 rfl (BO hb c ps pb db qb gb)) rfl ?_; clear hS
 rintro _ B_ ⟨rfl, hB_⟩
 obtain rfl := hB_.symm
 refine ⟨(aV aK), fun hS => ?_⟩
 refine bB 7 (by kernel_rfl) rfl rfl (gN call33 rfl (Bp W0 _ c h hr i hi1 ps pb (List.replicate (bD c) bT) po (eX.new _) hpo (by rw [hlr]; exact hpl) (by rw [hlr]; omega) (hfr i (Nat.le_refl _) hi1) none 0 [] (fun A => pH) (fun y hy => by cases hy) (by decide))) rfl ?_; clear hS
 rintro _ B_ ⟨g, bd, bt, bs, q0, q1, q2, wg, pv, pm, bx, tr, rfl, hB_⟩
 obtain rfl := hB_.symm
 rw [hlf, hpo2]
 refine ⟨(aV aK), fun hS => ?_⟩
 refine aj 8 rfl rfl (by kernel_rfl) (by kernel_rfl) (by kernel_rfl) rfl hS (ac rfl) ?_
 refine aj 9 rfl rfl (by kernel_rfl) (by kernel_rfl) (by kernel_rfl) rfl hS (aZ rfl rfl) ?_
 refine aj 10 rfl rfl (by kernel_rfl) (by kernel_rfl) (by kernel_rfl) rfl hS (aZ rfl rfl) ?_
 refine aj 11 rfl rfl (by kernel_rfl) (by kernel_rfl) (by kernel_rfl) rfl hS (ai rfl) ?_
 refine aj 12 rfl rfl (by kernel_rfl) (by kernel_rfl) (by kernel_rfl) rfl hS (ai rfl) ?_
 refine cg (by kernel_rfl) ?_; clear hS
 refine ab (ae (dP (r := pt) (b := bd.v) ?_))
 refine dP (r := dU) (b := tr) ?_
 refine dP (r := pt) (b := bd.r) ?_
 refine dP (r := pt) (b := g) ?_
 refine fJ (BQ (x := fX) BS rfl (fun _ => rfl)) ?_
 refine fJ (B := fu g fX :: d6 pb (ps, po2) :: cy ps (List.replicate (bD c) bT) :: pt hb (aw (dV c ps pb db qb gb) 68) :: pt bc (d7 c) :: pt gb (jt c.cats c.gate c.quota) :: osl 50 1 (.slice a gbs.length cap) (gbs.map pV) :: kH 2 (bG (gbs.map fun g => fu g fX)) :: pt wb (aw (kg c qs rpb x y z) 110) :: cT rpb (qs, po) :: cD qs (List.replicate (bD c) bT) :: osl 101 1 (.slice a2 wbs.length cap2) (wbs.map pV) :: R) (Ent.cons inferInstance) ?_
 refine cY [(bc, 0, _), (wb, 0, _)] 17 cV rfl (aV (aV aK)) (fun hS => ?_)
 refine aj 0 rfl rfl (by kernel_rfl) (by kernel_rfl) (by kernel_rfl) rfl hS (cQ cm bS rfl (by first | exact dA (k := 0) rfl | exact dA (k := 1) rfl) rfl) ?_
 refine aj 1 rfl rfl (by kernel_rfl) (by kernel_rfl) (by kernel_rfl) rfl hS (ac rfl) ?_
 refine aj 2 rfl rfl (by kernel_rfl) (by kernel_rfl) (by kernel_rfl) rfl hS (ac rfl) ?_
 refine aj 3 rfl rfl (by kernel_rfl) (by kernel_rfl) (by kernel_rfl) rfl hS (aH rfl) ?_
 refine aj 4 rfl rfl (by kernel_rfl) (by kernel_rfl) (by kernel_rfl) rfl hS (ao rfl wq rfl jf rfl (by first | exact Nat.zero_add _ | rfl)) ?_
 refine aj 5 rfl rfl (by kernel_rfl) (by kernel_rfl) (by kernel_rfl) rfl hS (ap rI rfl (by first | exact aG (k := 0) rfl rfl | exact aG (k := 1) rfl rfl)) ?_
 refine aj 6 rfl rfl (by kernel_rfl) (by kernel_rfl) (by kernel_rfl) rfl hS (ac rfl) ?_
 refine aj 7 rfl rfl (by kernel_rfl) (by kernel_rfl) (by kernel_rfl) rfl hS (aH rfl) ?_
 refine aj 8 rfl rfl (by kernel_rfl) (by kernel_rfl) (by kernel_rfl) rfl hS (ao rfl wq rfl mN rfl (by first | exact Nat.zero_add _ | rfl)) ?_
 refine aj 9 rfl rfl (by kernel_rfl) (by kernel_rfl) (by kernel_rfl) rfl hS (ap isAgg105 rfl (by first | exact aG (k := 0) rfl rfl | exact aG (k := 1) rfl rfl)) ?_
 refine aj 10 rfl rfl (by kernel_rfl) (by kernel_rfl) (by kernel_rfl) rfl hS (ac rfl) ?_
 refine bB 11 (by kernel_rfl) rfl rfl (gN call34 rfl (Bu W0 _ c h hr i hi1 qs rpb (List.replicate (bD c) bT) po (eX.new _) hpo (by rw [hlr]; exact hpl) (by rw [hlr]; omega) (hfr i (Nat.le_refl _) hi1) none 0 [] (fun A => pH) (fun y hy => by cases hy) (by decide) (Nat.le_refl _))) rfl ?_; clear hS
 rintro _ B_ ⟨w, rfl, hB_⟩
 obtain rfl := hB_.symm
 rw [hlf, hpo2]
 refine ⟨(aV (aV aK)), fun hS => ?_⟩
 refine aj 12 rfl rfl (by kernel_rfl) (by kernel_rfl) (by kernel_rfl) rfl hS (ac rfl) ?_
 refine aj 13 rfl rfl (by kernel_rfl) (by kernel_rfl) (by kernel_rfl) rfl hS (aZ rfl rfl) ?_
 refine aj 14 rfl rfl (by kernel_rfl) (by kernel_rfl) (by kernel_rfl) rfl hS (aZ rfl rfl) ?_
 refine aj 15 rfl rfl (by kernel_rfl) (by kernel_rfl) (by kernel_rfl) rfl hS (ai rfl) ?_
 refine aj 16 rfl rfl (by kernel_rfl) (by kernel_rfl) (by kernel_rfl) rfl hS (ai rfl) ?_
 refine cg (by kernel_rfl) ?_; clear hS
 refine ab (ae (ae (ah (aa rfl (ac rfl) (aa rfl (ac rfl) (aa rfl (co rfl rfl) (aa rfl (ac rfl) ?_)))))))
 refine bA rfl rfl rfl ?_ ?_
 intro g17_4
 exact absurd g17_4 (by decide)
 intro g17_4
 refine aa rfl (ac rfl) (ar rfl rfl (aa rfl (dl rU rfl rfl) (aa rfl (aJ rfl rfl) (aa rfl (ac rfl) ?_))))
 refine bA rfl rfl rfl ?_ ?_
 intro g17_8
 first | exact absurd g17_8 (by decide) | (cases g17_8)
 intro g17_8
 refine aa rfl (ac rfl) (ar rfl rfl (aa rfl (dl underlying101 rfl rfl) (aa rfl (aJ rfl rfl) (ag (ab ?_)))))
 refine ax rfl ?_ ?_
 intro c17
 first | exact absurd c17 (by decide) | (cases c17)
 intro c17
 refine aB (ab (ae (ah (aa rfl (ac rfl) (aa rfl (ac rfl) ?_)))))
 refine am rfl (fK hJ iJ zeroValue50 rfl rfl rfl rfl rfl (by decide) (by decide)) ?_
 rintro _ _ ⟨b2, rfl, rfl⟩
 refine am rfl (dL (sz := 1) (by_ := 8) (info := Tryz.t50) hJ (by kernel_rfl) rfl rfl rfl rfl (by decide) rfl rfl dM rfl rfl (by simp only [maxLen]; omega) (by omega)) ?_
 rintro _ _ ⟨a3, c3, rfl, rfl⟩
 refine aa rfl (ai rfl) (ag (ab (ah (aa rfl (ac rfl) (aa rfl (ac rfl) ?_)))))
 refine am rfl (fK CJ sizeOf101 zeroValue101 rfl rfl rfl rfl rfl (by decide) (by decide)) ?_
 rintro _ _ ⟨b3, rfl, rfl⟩
 refine am rfl (dL (sz := 1) (by_ := 8) (info := Tryz.t101) CJ (by kernel_rfl) rfl rfl rfl rfl (by decide) rfl rfl dM rfl rfl (by simp only [maxLen]; omega) (by omega)) ?_
 rintro _ _ ⟨a4, c4, rfl, rfl⟩
 refine aa rfl (ai rfl) (ag (bF (ab (ah (aa rfl (ac rfl) ?_)))))
 refine aa rfl (bC rfl rfl (by first | exact aW (by omega) | rfl)) ?_
 refine aa rfl (ai rfl) (ag (ab ?_))
 refine cp (i + 1, gbs ++ [g], wbs ++ [w], (a3, c3), (a4, c4), po2) ?_ ?_ ?_ ?_
 refine ⟨by omega, by show (gbs ++ [g]).length = i + 1; simp [hgl], by show (wbs ++ [w]).length = i + 1; simp [hwl], hok2, hpl2, fun j h1 h2 => ?_⟩
 show (cM c j).2.1 ≤ ((bJ po2 j).length : Int)
 rw [hlo j (by omega)]
 exact hfr j (by omega) h2
 show c.gl.length - (i + 1) < c.gl.length - i; omega
 · dsimp only
   rw [show (gbs ++ [g]).length = gbs.length + 1 by simp, show (wbs ++ [w]).length = wbs.length + 1 by simp]
   repeat (first | exact aX | refine aU rfl ?_)
 dsimp only
 refine Ent.trans (B := fu g fX :: kH 2 (bG (gbs.map fun g => fu g fX)) :: pt bc (d7 c) :: pt hb (aw (dV c ps pb db qb gb) 68) :: pt gb (jt c.cats c.gate c.quota) :: cy ps (List.replicate (bD c) bT) :: osl 50 1 (.slice a3 (gbs.length + 1) c3) (gbs.map pV ++ [pV g]) :: d6 pb (ps, po2) :: pt wb (aw (kg c qs rpb x y z) 110) :: cT rpb (qs, po2) :: cD qs (List.replicate (bD c) bT) :: osl 101 1 (.slice a4 (wbs.length + 1) c4) (wbs.map pV ++ [pV w]) :: R) inferInstance ?_
 refine Ent.trans BX ?_
 unfold or
 rw [show (gbs ++ [g]).length = gbs.length + 1 by simp, show (gbs ++ [g]).map pV = gbs.map pV ++ [pV g] by simp, show (wbs ++ [w]).length = wbs.length + 1 by simp, show (wbs ++ [w]).map pV = wbs.map pV ++ [pV w] by simp]
 exact inferInstance
 intro c10
 refine bX (bi (bi (bZ (ab (ae (ah (aa rfl (ac rfl) (aa rfl (ac rfl) (aa rfl (ac rfl) (aa rfl (ac rfl) (aa rfl (ai rfl) (aa rfl (ai rfl) (aa rfl (ai rfl) (aa rfl (ai rfl) (aa rfl (ai rfl) (ag (ab (av (au (.inl rfl) (.cons (ak rfl) (.cons (ak rfl) (.cons (ak rfl) (.cons (ak rfl) (.cons (ak rfl) .nil))))) ?_)))))))))))))))))))
 obtain rfl : i = c.gl.length := by omega
 exact ⟨_, ⟨hb, ps, pb, db, qb, gb, wb, a, cap, a2, wbs.length, cap2, gbs, hgl, rfl, rfl⟩, inferInstance⟩
abbrev eg (cs : List Value) : Obj := aw cs 142
section
variable {rb vb pv tr : Nat} {cs : List Value}
theorem ot (gb : Nat) (h : GC rb vb pv tr cs) : aC Tryz.prog W0 43 [pV gb] (pt gb (eg cs) :: R) (fun v B => v = .bool false ∧ B = pt gb (eg cs) :: R) := by
 refine aF func43 ntmps43 rfl rfl ?_
 refine ae (ah (aa rfl (ai rfl) (ag (ab (ae (ah (aa rfl (ac rfl) (aa rfl (dl rU rfl rfl) (aa rfl (ac rfl) ?_)))))))))
 refine bA rfl rfl rfl ?_ ?_
 intro g1_3
 cases g1_3
 intro g1_3
 refine aa rfl (ac rfl) (ar rfl rfl (aa rfl (aH rfl) (ar rfl rfl ?_)))
 refine aa rfl (ao rfl im rfl oJ rfl (by first | exact Nat.zero_add _ | rfl)) ?_
 refine ar rfl rfl (aa rfl (ap isAgg139 rfl (aA h.cw)) ?_)
 refine ar rfl rfl (aa rfl (dl CC rfl rfl) (aa rfl (aJ rfl rfl) (aa rfl (ai rfl) (ag (ab (av (au (.inl rfl) (.cons (ak rfl) .nil) ?_)))))))
 exact ⟨_, ⟨rfl, rfl⟩, inferInstance⟩
theorem vo (gb : Nat) (rl : List Nat) (pc : Nat) (h : GC rb vb pv tr cs) (hl : rl.length = 16) : aC Tryz.prog W0 17 [pV gb] (pt gb (eg cs) :: pt rb (dh rl pc) :: R) (fun v B => v = .agg (rl.map wV).toArray ∧ B = pt gb (eg cs) :: pt rb (dh rl pc) :: R) := by
 refine aF func17 ntmps17 rfl rfl ?_
 refine ae (ah (am rfl (dd vZ) ?_))
 rintro _ _ ⟨b1, rfl, rfl⟩
 refine ag (ab (ae (ae (ah (aa rfl (ac rfl) (am rfl (bz rV rfl (ot gb h)) ?_))))))
 rintro _ B_ ⟨rfl, hB_⟩
 obtain rfl := hB_.symm
 refine ag (ab ?_)
 refine ax rfl ?_ ?_
 intro c1
 exact absurd c1 (by decide)
 intro c1
 refine aB (ab (ae (ah (aa rfl (ac rfl) (aa rfl (aH rfl) ?_)))))
 refine aa rfl (ao rfl im rfl gy rfl (by first | exact Nat.zero_add _ | rfl)) ?_
 refine aa rfl (ao rfl jg rfl jh rfl (by first | exact Nat.zero_add _ | rfl)) ?_
 refine aa rfl (ap kA rfl (aA h.cr)) ?_
 refine am rfl (bz call44 rfl (uO rb rl pc hl)) ?_
 rintro _ B_ ⟨rfl, hB_⟩
 obtain rfl := hB_.symm
 refine bE (cK il rfl rfl (by rw [List.length_map, hl]) (uN rl) rfl) ?_
 rintro _ _ rfl
 refine ag (ab (av ?_))
 refine au (.inl rfl) (.cons (fj w0 il rfl (by rw [List.length_map, hl])) .nil) ?_
 exact ⟨_, ⟨rfl, rfl⟩, inferInstance⟩
theorem vp (gb : Nat) (rl : List Nat) (pc i x : Nat) (h : GC rb vb pv tr cs) (hl : rl.length = 16) (hi : i < 16) (h0 : i ≠ 0) : aC Tryz.prog W0 35 [pV gb, .int .i64 i, wV x] (pt gb (eg cs) :: pt rb (dh rl pc) :: R) (fun v B => v = .int .i64 0 ∧ B = pt gb (eg cs) :: pt rb (dh (rl.set i x) pc) :: R) := by
 refine aF func35 ntmps35 rfl rfl ?_
 refine ae (ah (aa rfl (ai rfl) (ag (ab (ae (ae (ah (aa rfl (ac rfl) (am rfl (bz rV rfl (ot gb h)) ?_)))))))))
 rintro _ B_ ⟨rfl, hB_⟩
 obtain rfl := hB_.symm
 refine ag (ab ?_)
 refine ax rfl ?_ ?_
 intro c1
 exact absurd c1 (by decide)
 intro c1
 refine aB (ab (ae (ah (aa rfl (ac rfl) (aa rfl (aH rfl) ?_)))))
 refine aa rfl (ao rfl im rfl gy rfl (by first | exact Nat.zero_add _ | rfl)) ?_
 refine aa rfl (ao rfl jg rfl jh rfl (by first | exact Nat.zero_add _ | rfl)) ?_
 refine aa rfl (ap kA rfl (aA h.cr)) ?_
 refine aa rfl (ac rfl) (aa rfl (ac rfl) (am rfl (bz wu rfl (qQ rb rl pc i x hl hi h0)) ?_))
 rintro _ B_ ⟨rfl, hB_⟩
 obtain rfl := hB_.symm
 refine aa rfl (ai rfl) (ag (ab (av (au (.inl rfl) (.cons (ak rfl) .nil) ?_))))
 exact ⟨_, ⟨rfl, rfl⟩, inferInstance⟩
theorem C1 (gb : Nat) (h : GC rb vb pv tr cs) : aC Tryz.prog W0 30 [pV gb] (pt gb (eg cs) :: R) (fun v B => v = pV tr ∧ B = pt gb (eg cs) :: R) := by
 refine aF func30 ntmps30 rfl rfl ?_
 refine ae (ah (aa rfl (ai rfl) (ag (ab (ae (ae (ah (aa rfl (ac rfl) (am rfl (bz rV rfl (ot gb h)) ?_)))))))))
 rintro _ B_ ⟨rfl, hB_⟩
 obtain rfl := hB_.symm
 refine ag (ab ?_)
 refine ax rfl ?_ ?_
 intro c1
 exact absurd c1 (by decide)
 intro c1
 refine aB (ab (ae (ah (aa rfl (ac rfl) (aa rfl (aH rfl) ?_)))))
 refine aa rfl (ao rfl im rfl rN rfl (by first | exact Nat.zero_add _ | rfl)) ?_
 refine aa rfl (ap isAgg94 rfl (aA h.ct)) ?_
 refine aa rfl (ai rfl) (ag (ab (av (au (.inl rfl) (.cons (ak rfl) .nil) ?_))))
 exact ⟨_, ⟨rfl, rfl⟩, inferInstance⟩
theorem C2 (b : Nat) (rl : List Nat) (pc i : Nat) (hl : rl.length = 16) (hi : i < 16) : aC Tryz.prog W0 105 [pV b, .int .i64 i] (pt b (dh rl pc) :: R) (fun v B => v = .tuple #[wV (rl.getD i 0), .int .i64 0] ∧ B = pt b (dh rl pc) :: R) := by
 have hir : js i = true := by simp only [js, decide_eq_true_eq]; omega
 have hg : (rl.map wV ++ [Value.bool true, wV pc])[i * 1]? = some (wV (rl.getD i 0)) := by
  rw [Nat.mul_one, List.getElem?_append_left (by rw [List.length_map, hl]; exact hi)]
  simp [List.getD, show i < rl.length by omega]
 refine aF func105 ntmps105 rfl rfl ?_
 refine ae (ah (aa rfl (ai rfl) (aa rfl (ai rfl) (ag (ab (ae (ae (ah (aa rfl (ac rfl) (aa rfl (dl oH rfl rfl) (ag (ab ?_))))))))))))
 refine ax rfl ?_ ?_
 intro c1
 cases c1
 intro c1
 refine aB (ab (ae (ae (ah (aa rfl (ac rfl) (aa rfl (aH rfl) ?_))))))
 refine aa rfl (ao rfl jD rfl kw rfl (by first | exact Nat.zero_add _ | rfl)) ?_
 refine aa rfl (ac rfl) (am rfl (bz call217 rfl (uP b rl pc hl i)) ?_)
 rintro _ B_ ⟨rfl, hB_⟩
 obtain rfl := hB_.symm
 refine aa rfl (ai rfl) (ag (ab (ae (ah (aa rfl (ac rfl) (aa rfl (co rfl rfl) (ag (ab ?_))))))))
 refine ax rfl ?_ ?_
 intro c4
 exact absurd c4 (by rw [hir]; decide)
 intro c4
 refine aB (ab (ae (ah (aa rfl (ac rfl) (aa rfl (ac rfl) (aa rfl (aH rfl) ?_))))))
 refine aa rfl (ao rfl jD rfl kw rfl (by first | exact Nat.zero_add _ | rfl)) ?_
 refine aa rfl (ao rfl mI rfl il rfl (by first | exact Nat.zero_add _ | rfl)) ?_
 refine aa rfl (fk oI dz rfl rfl rfl hi (by first | exact Nat.zero_add _ | rfl)) ?_
 refine aa rfl (ap je rfl (aA hg)) ?_
 refine aa rfl (ai rfl) (aa rfl (ai rfl) (ag (ab (av (au (.inl rfl) (.cons (ak rfl) (.cons (ak rfl) .nil)) ?_)))))
 exact ⟨_, ⟨rfl, rfl⟩, inferInstance⟩
theorem C3 (gb : Nat) (h : GC rb vb pv tr cs) : aC Tryz.prog W0 242 [pV gb] (pt gb (eg cs) :: R) (fun v B => v = .int .i64 0 ∧ B = pt gb (eg cs) :: R) := by
 refine aF func242 ntmps242 rfl rfl ?_
 refine ae (ah (aa rfl (ai rfl) (ag (ab (ae (ah (aa rfl (ac rfl) (aa rfl (aH rfl) ?_))))))))
 refine aa rfl (ao rfl im rfl az rfl (by first | exact Nat.zero_add _ | rfl)) ?_
 refine aa rfl (ap aM rfl (aA h.cc)) ?_
 refine aa rfl (dW rfl rfl (r := -1) rfl) ?_
 refine aa rfl (tn rfl rfl (r := 0) rfl) ?_
 refine aa rfl (ai rfl) (ag (ab (av (au (.inl rfl) (.cons (ak rfl) .nil) ?_))))
 exact ⟨_, ⟨rfl, rfl⟩, inferInstance⟩
theorem C4 (k ck : Int) (a b d : Nat) (rl : List Nat) (h : rl.length = 16) (zs : List Value) (hz : zs.length = 16) : setR ([.int .i64 k, .int .i64 ck, wV a, wV b, wV d] ++ zs) 5 (rl.map wV) = [.int .i64 k, .int .i64 ck, wV a, wV b, wV d] ++ rl.map wV :=
  mR (rl.map wV) zs [.int .i64 k, .int .i64 ck, wV a, wV b, wV d] (by rw [List.length_map, h, hz])
theorem C5 {S : World → Prop} {N : FSz} {e : bK} {o0 o1 o2 o3 o4 o5 : Operand} {k ck : Int} {a b d : Nat} {rl : List Nat} (hl : rl.length = 16) (h0 : ev e o0 = some (.int .i64 k)) (h1 : ev e o1 = some (.int .i64 ck)) (h2 : ev e o2 = some (wV a)) (h3 : ev e o3 = some (wV b)) (h4 : ev e o4 = some (wV d)) (h5 : ev e o5 = some (.agg (rl.map wV).toArray)) :
    cn Tryz.prog S N e (.build 407 #[(0, o0), (1, o1), (2, o2), (3, o3), (4, o4), (5, o5)]) (.agg ([Value.int .i64 k, .int .i64 ck, wV a, wV b, wV d] ++ rl.map wV).toArray) :=
  bQ (l' := [Value.int .i64 k, .int .i64 ck, wV a, wV b, wV d] ++ rl.map wV) underlying407 w6 (aE az (aE az (aE dz (aE dz (aE dz (aE il bP))))))
    (bn (l' := [.int .i64 k, .int .i64 0, .int .u32 0, .int .u32 0, .int .u32 0] ++ List.replicate 16 (.int .u32 0)) rfl az h0 rfl (Nat.le_of_ble_eq_true rfl) rfl
    (bn (l' := [.int .i64 k, .int .i64 ck, .int .u32 0, .int .u32 0, .int .u32 0] ++ List.replicate 16 (.int .u32 0)) rfl az h1 rfl (Nat.le_of_ble_eq_true rfl) rfl
    (bn (l' := [.int .i64 k, .int .i64 ck, wV a, .int .u32 0, .int .u32 0] ++ List.replicate 16 (.int .u32 0)) rfl dz h2 rfl (Nat.le_of_ble_eq_true rfl) rfl
    (bn (l' := [.int .i64 k, .int .i64 ck, wV a, wV b, .int .u32 0] ++ List.replicate 16 (.int .u32 0)) rfl dz h3 rfl (Nat.le_of_ble_eq_true rfl) rfl
    (bn (l' := [.int .i64 k, .int .i64 ck, wV a, wV b, wV d] ++ List.replicate 16 (.int .u32 0)) rfl dz h4 rfl (Nat.le_of_ble_eq_true rfl) rfl
    (it rfl il h5 (by rw [List.length_map, hl]) (by simp) (C4 k ck a b d rl hl _ (by simp)) bO))))))
theorem C6 (b : Nat) (es : List Evt) (k ck : Int) (x y z : Nat) (rl : List Nat) (hl : rl.length = 16) (hn : es.length < 4096) : aC Tryz.prog W0 241 [pV b, .agg ([Value.int .i64 k, .int .i64 ck, wV x, wV y, wV z] ++ rl.map wV).toArray] (dU b es :: R) (fun v B => v = .int .i64 0 ∧ B = dU b (es ++ [⟨k, ck, x, y, z, rl⟩]) :: R) := by
 have := B7 W0 R b es ⟨k, ck, x, y, z, rl⟩ hn
 rwa [B4 (e := ⟨k, ck, x, y, z, rl⟩) hl] at this
theorem C7 (gb : Nat) (rl : List Nat) (pc : Nat) (es : List Evt) (k : Int) (x y z : Nat) (h : GC rb vb pv tr cs) (hl : rl.length = 16) (hn : es.length < 4096) : aC Tryz.prog W0 108 [pV gb, .int .i64 k, wV x, wV y, wV z] (pt gb (eg cs) :: pt rb (dh rl pc) :: dU tr es :: R)
    (fun v B => v = .tuple #[] ∧ B = pt gb (eg cs) :: pt rb (dh rl pc) :: dU tr (es ++ [⟨k, 0, x, y, z, rl⟩]) :: R) := by
 refine aF func108 ntmps108 rfl rfl ?_
 refine cY [(gb, 0, _)] 18 cV rfl (aV aK) (fun hS => ?_)
 refine aj 0 rfl rfl (by kernel_rfl) (by kernel_rfl) (by kernel_rfl) rfl hS (ac rfl) ?_
 refine aj 1 rfl rfl (by kernel_rfl) (by kernel_rfl) (by kernel_rfl) rfl hS (aH rfl) ?_
 refine aj 2 rfl rfl (by kernel_rfl) (by kernel_rfl) (by kernel_rfl) rfl hS (ao rfl im rfl rN rfl (by first | exact Nat.zero_add _ | rfl)) ?_
 refine aj 3 rfl rfl (by kernel_rfl) (by kernel_rfl) (by kernel_rfl) rfl hS (ap isAgg94 rfl (aG (k := 0) rfl h.ct)) ?_
 refine aj 4 rfl rfl (by kernel_rfl) (by kernel_rfl) (by kernel_rfl) rfl hS (ac rfl) ?_
 refine aj 5 rfl rfl (by kernel_rfl) (by kernel_rfl) (by kernel_rfl) rfl hS (ac rfl) ?_
 refine aj 7 rfl rfl (by kernel_rfl) (by kernel_rfl) (by kernel_rfl) rfl hS (ac rfl) ?_
 refine aj 8 rfl rfl (by kernel_rfl) (by kernel_rfl) (by kernel_rfl) rfl hS (ac rfl) ?_
 refine aj 9 rfl rfl (by kernel_rfl) (by kernel_rfl) (by kernel_rfl) rfl hS (ac rfl) ?_
 refine aj 10 rfl rfl (by kernel_rfl) (by kernel_rfl) (by kernel_rfl) rfl hS (ac rfl) ?_
 refine aj 11 rfl rfl (by kernel_rfl) (by kernel_rfl) (by kernel_rfl) rfl hS (aH rfl) ?_
 refine aj 12 rfl rfl (by kernel_rfl) (by kernel_rfl) (by kernel_rfl) rfl hS (ao rfl im rfl gy rfl (by first | exact Nat.zero_add _ | rfl)) ?_
 refine aj 13 rfl rfl (by kernel_rfl) (by kernel_rfl) (by kernel_rfl) rfl hS (ao rfl jg rfl jh rfl (by first | exact Nat.zero_add _ | rfl)) ?_
 refine aj 14 rfl rfl (by kernel_rfl) (by kernel_rfl) (by kernel_rfl) rfl hS (ap kA rfl (aG (k := 0) rfl h.cr)) ?_
 refine bB 6 (by kernel_rfl) rfl rfl (bz call242 rfl (C3 gb h)) rfl ?_; clear hS
 rintro _ B_ ⟨rfl, hB_⟩
 obtain rfl := hB_.symm
 refine ⟨(aV aK), fun hS => ?_⟩
 refine bB 15 (by kernel_rfl) rfl rfl (bz call44 rfl (uO rb rl pc hl)) rfl ?_; clear hS
 rintro _ B_ ⟨rfl, hB_⟩
 obtain rfl := hB_.symm
 refine ⟨(aV aK), fun hS => ?_⟩
 refine aj 16 rfl rfl (by kernel_rfl) (by kernel_rfl) (by kernel_rfl) rfl hS (C5 hl rfl rfl rfl rfl rfl rfl) ?_
 refine bB 17 (by kernel_rfl) rfl rfl (bz call241 rfl (C6 tr es k 0 x y z rl hl hn)) rfl ?_; clear hS
 rintro _ B_ ⟨rfl, hB_⟩
 obtain rfl := hB_.symm
 refine ⟨(aV aK), fun hS => ?_⟩
 refine cg (by kernel_rfl) ?_; clear hS
 refine au (.inr rfl) .nil ?_
 exact ⟨_, ⟨rfl, rfl⟩, inferInstance⟩
def gr (rl : List Nat) (e w : Nat) : List Nat := (rl.set 1 e).set 2 w
theorem C8 (gb : Nat) (rl : List Nat) (pc : Nat) (es : List Evt) (e w : Nat) (h : GC rb vb pv tr cs) (hl : rl.length = 16) (hn : es.length < 4096) (he : e < 100) (hp : pc < 1000) : aC Tryz.prog W0 39 [pV gb, .int .i64 e, wV w] (pt gb (eg cs) :: pt rb (dh rl pc) :: dU tr es :: R)
    (fun v B => v = .int .i64 0 ∧ B = pt gb (eg cs) :: pt rb (dh (gr rl e w) (pc + 4)) :: dU tr (es ++ [⟨2, 0, rl.getD 1 0, e, pc, gr rl e w⟩]) :: R) := by
 have hl2 : (gr rl e w).length = 16 := by simp [gr, hl]
 refine aF func39 ntmps39 rfl rfl ?_
 refine ae (ah (aa rfl (ai rfl) (ag (ab (ae (ae (ah (aa rfl (ac rfl) (am rfl (bz rV rfl (ot gb h)) ?_)))))))))
 rintro _ B_ ⟨rfl, hB_⟩
 obtain rfl := hB_.symm
 refine ag (ab ?_)
 refine ax rfl ?_ ?_
 intro c1
 exact absurd c1 (by decide)
 intro c1
 refine aB (ab (ae (ah (aa rfl (ac rfl) (aa rfl (aH rfl) ?_)))))
 refine aa rfl (ao rfl im rfl gy rfl (by first | exact Nat.zero_add _ | rfl)) ?_
 refine aa rfl (ao rfl jg rfl jh rfl (by first | exact Nat.zero_add _ | rfl)) ?_
 refine aa rfl (ap kA rfl (aA h.cr)) ?_
 refine am rfl (bz call105 rfl (C2 rb rl pc 1 hl (by decide))) ?_
 rintro _ B_ ⟨rfl, hB_⟩
 obtain rfl := hB_.symm
 refine aa rfl (ac rfl) (aa rfl (aZ rfl rfl) (aa rfl (aZ rfl rfl) (aa rfl (ai rfl) (aa rfl (ai rfl) (ag (ab (ae (ah (aa rfl (ac rfl) (aa rfl (aH rfl) ?_))))))))))
 refine aa rfl (ao rfl im rfl gy rfl (by first | exact Nat.zero_add _ | rfl)) ?_
 refine aa rfl (ao rfl jg rfl jh rfl (by first | exact Nat.zero_add _ | rfl)) ?_
 refine aa rfl (ap kA rfl (aA h.cr)) ?_
 refine am rfl (bz call106 rfl (AU rb rl pc hl)) ?_
 rintro _ B_ ⟨rfl, hB_⟩
 obtain rfl := hB_.symm
 refine aa rfl (ai rfl) (ag (ab (ae (ah (aa rfl (ac rfl) (aa rfl (aH rfl) ?_))))))
 refine aa rfl (ao rfl im rfl gy rfl (by first | exact Nat.zero_add _ | rfl)) ?_
 refine aa rfl (ao rfl jg rfl jh rfl (by first | exact Nat.zero_add _ | rfl)) ?_
 refine aa rfl (ap kA rfl (aA h.cr)) ?_
 refine aa rfl (ac rfl) ?_
 refine aa rfl (lH CK ou rfl (mX (by omega))) ?_
 refine am rfl (bz wu rfl (qQ rb rl pc 1 e hl (by decide) (by decide))) ?_
 rintro _ B_ ⟨rfl, hB_⟩
 obtain rfl := hB_.symm
 refine ag (ab (ae (ah (aa rfl (ac rfl) (aa rfl (aH rfl) ?_)))))
 refine aa rfl (ao rfl im rfl gy rfl (by first | exact Nat.zero_add _ | rfl)) ?_
 refine aa rfl (ao rfl jg rfl jh rfl (by first | exact Nat.zero_add _ | rfl)) ?_
 refine aa rfl (ap kA rfl (aA h.cr)) ?_
 refine aa rfl (ac rfl) ?_
 refine am rfl (bz wu rfl (qQ rb (rl.set 1 e) pc 2 w (by simp [hl]) (by decide) (by decide))) ?_
 rintro _ B_ ⟨rfl, hB_⟩
 obtain rfl := hB_.symm
 refine ag (ab (ae (ah (aa rfl (ac rfl) (aa rfl (aH rfl) ?_)))))
 refine aa rfl (ao rfl im rfl gy rfl (by first | exact Nat.zero_add _ | rfl)) ?_
 refine aa rfl (ao rfl jg rfl jh rfl (by first | exact Nat.zero_add _ | rfl)) ?_
 refine aa rfl (ap kA rfl (aA h.cr)) ?_
 refine aa rfl (ac rfl) ?_
 refine aa rfl (bC rfl rfl (by rw [mX (by omega)]; omega : IntKind.wrap .u32 ((pc : Int) + 4) = ((pc + 4 : Nat) : Int))) ?_
 refine am rfl (bz call107 rfl (AV rb (gr rl e w) pc (pc + 4) hl2)) ?_
 rintro _ B_ ⟨rfl, hB_⟩
 obtain rfl := hB_.symm
 refine ag (ab (ae (ah (aa rfl (ac rfl) (aa rfl (ac rfl) (aa rfl (ac rfl) ?_))))))
 refine aa rfl (lH CK ou rfl (mX (by omega))) ?_
 refine aa rfl (ac rfl) (am rfl (kG call108 rfl (C7 gb (gr rl e w) (pc + 4) es 2 (rl.getD 1 0) e pc h hl2 hn)) ?_)
 rintro _ B_ ⟨rfl, hB_⟩
 obtain rfl := hB_.symm
 refine ag (ab (ae (ah (aa rfl (ai rfl) (ag (ab (av (au (.inl rfl) (.cons (ak rfl) .nil) ?_))))))))
 exact ⟨_, ⟨rfl, rfl⟩, inferInstance⟩
theorem C9 {l : List Nat} (h : l.length = 16) : ∃ a0 a1 a2 a3 a4 a5 a6 a7 a8 a9 a10 a11 a12 a13 a14 a15, l = [a0, a1, a2, a3, a4, a5, a6, a7, a8, a9, a10, a11, a12, a13, a14, a15] := by
 match l, h with
 | [a0, a1, a2, a3, a4, a5, a6, a7, a8, a9, a10, a11, a12, a13, a14, a15], _ => exact ⟨a0, a1, a2, a3, a4, a5, a6, a7, a8, a9, a10, a11, a12, a13, a14, a15, rfl⟩
theorem Ca (gb : Nat) (rl : List Nat) (pc : Nat) (h : GC rb vb pv tr cs) (hl : rl.length = 16) : aC Tryz.prog W0 37 [pV gb] (pt gb (eg cs) :: pt rb (dh rl pc) :: R)
    (fun v B => v = .tuple #[wV (rl.getD 1 0), .agg #[wV (rl.getD 2 0), wV (rl.getD 3 0), wV (rl.getD 4 0), wV (rl.getD 5 0)]] ∧ B = pt gb (eg cs) :: pt rb (dh rl pc) :: R) := by
 obtain ⟨a0, a1, a2, a3, a4, a5, a6, a7, a8, a9, a10, a11, a12, a13, a14, a15, rfl⟩ := C9 hl
 refine aF func37 ntmps37 rfl rfl ?_
 refine ae (ah (aa rfl (ai rfl) (am rfl (dd rQ) ?_)))
 rintro _ _ ⟨b1, rfl, rfl⟩
 refine ag (ab (ae (ah (aa rfl (ac rfl) (am rfl (gN call17 rfl (vo gb [a0, a1, a2, a3, a4, a5, a6, a7, a8, a9, a10, a11, a12, a13, a14, a15] pc h hl)) ?_)))))
 rintro _ B_ ⟨rfl, hB_⟩
 obtain rfl := hB_.symm
 refine am rfl (dd vZ) ?_
 rintro _ _ ⟨br, rfl, rfl⟩
 refine bE (cK il rfl rfl rfl rfl rfl) ?_
 rintro _ _ rfl
 refine ag (ab (ae ?_))
 refine cY [(br, 0, _)] 7 cV rfl (aV aK) (fun hS => ?_)
 refine aj 0 rfl rfl (by kernel_rfl) (by kernel_rfl) (by kernel_rfl) rfl hS (fk oI dz rfl rfl (i := 1) rfl (by decide) (by first | exact Nat.zero_add _ | rfl)) ?_
 refine aj 1 rfl rfl (by kernel_rfl) (by kernel_rfl) (by kernel_rfl) rfl hS (ap je rfl (aG (k := 0) rfl rfl)) ?_
 refine aj 2 rfl rfl (by kernel_rfl) (by kernel_rfl) (by kernel_rfl) rfl hS (zu (i := 2) (h := 6) (o' := 2) oI dz rfl rfl rfl rfl rfl (by decide) (by decide) (by decide) rfl) ?_
 refine aj 3 rfl rfl (by kernel_rfl) (by kernel_rfl) (by kernel_rfl) rfl hS (zv rP rfl (by decide)) ?_
 refine aj 4 rfl rfl (by kernel_rfl) (by kernel_rfl) (by kernel_rfl) rfl hS (cQ ww iV rfl (zw (n := 4) (j := 2) (dA (k := 0) rfl) rfl) rfl) ?_
 refine aj 5 rfl rfl (by kernel_rfl) (by kernel_rfl) (by kernel_rfl) rfl hS (ai rfl) ?_
 refine bB 6 (by kernel_rfl) rfl rfl (cK iV rfl rfl rfl rfl rfl) rfl ?_; clear hS
 rintro _ _ rfl
 refine ⟨(aV aK), fun hS => ?_⟩
 refine cg (by kernel_rfl) ?_; clear hS
 refine ab (av (au (.inl rfl) (.cons (ak rfl) (.cons (fj ww iV rfl rfl) .nil)) ?_))
 exact ⟨_, ⟨rfl, rfl⟩, inferInstance⟩
@[reducible] def jb (gb i n : Nat) (x : List Value) (hb : Nat) (lv : Value) : List Value := [pV gb, .int .i64 i, wV n] ++ x ++ [.int .i64 0, pV hb, lv]
theorem Cb (cb gb i hb : Nat) (a b c d : Nat) (lv : Value) : aC Tryz.prog W0 38 [pV cb] (pt cb (aw (jb gb i 0 [wV a, wV b, wV c, wV d] hb lv) 118) :: R)
    (fun v B => v = .func (.func 230) #[pV cb] #[] ∧ B = pt cb (aw (jb gb i 0 [wV a, wV b, wV c, wV d] hb lv) 118) :: R) := by
 have own : ∀ R, aC Tryz.prog W0 104 [pV cb] (pt cb (aw (jb gb i 0 [wV a, wV b, wV c, wV d] hb lv) 118) :: R)
   (fun v B => v = .func (.func 230) #[pV cb] #[] ∧ B = pt cb (aw (jb gb i 0 [wV a, wV b, wV c, wV d] hb lv) 118) :: R) := fun R => by
   refine aF func104 ntmps104 rfl rfl ?_
   refine ae (ah (aa rfl (ai rfl) (ag (ab (ae (ae (ah (aa rfl (ac rfl) (aa rfl (aH rfl) ?_)))))))))
   refine aa rfl (ao rfl lD rfl kB rfl (by first | exact Nat.zero_add _ | rfl)) ?_
   refine aa rfl (ao rfl lE rfl dz rfl (by first | exact Nat.zero_add _ | rfl)) ?_
   refine aa rfl (ap je rfl (aA rfl)) ?_
   refine ag (ab (b0 (ae (ah (aa rfl (cz rfl rfl) (aa rfl (ai rfl) (ag (ab ?_))))))))
   refine ax rfl ?_ ?_
   · intro c2
     refine ae (ah (aa rfl (ac rfl) (aa rfl (iZ rfl rfl) ?_)))
     refine aa rfl (ai rfl) (ag (ab (av (bj (aD (au (.inl rfl) (.cons (ak rfl) .nil) ?_))))))
     exact ⟨_, ⟨rfl, rfl⟩, inferInstance⟩
   intro c2
   exact absurd rfl c2
 refine aF func38 ntmps38 rfl rfl ?_
 refine ae (ah (aa rfl (ai rfl) (ag (ab (ae (ae (ah (aa rfl (ac rfl) (aa rfl (aH rfl) ?_)))))))))
 refine aa rfl (ao rfl lD rfl kB rfl (by first | exact Nat.zero_add _ | rfl)) ?_
 refine aa rfl (ao rfl lE rfl dz rfl (by first | exact Nat.zero_add _ | rfl)) ?_
 refine aa rfl (ap je rfl (aA rfl)) ?_
 refine ag (ab (b0 (ae (ah (aa rfl (cz rfl rfl) (aa rfl (ai rfl) (ag (ab ?_))))))))
 refine ax rfl ?_ ?_
 intro c2
 exact absurd c2 (by decide)
 intro c2
 refine ae (ah (aa rfl (cz rfl rfl) (aa rfl (ai rfl) (ag (ab ?_)))))
 refine ax rfl ?_ ?_
 intro c4
 exact absurd c4 (by decide)
 intro c4
 refine ae (ah (aa rfl (cz rfl rfl) (aa rfl (ai rfl) (ag (ab ?_)))))
 refine ax rfl ?_ ?_
 intro c6
 exact absurd c6 (by decide)
 intro c6
 refine ae (ah (aa rfl (cz rfl rfl) (aa rfl (ai rfl) (ag (ab ?_)))))
 refine ax rfl ?_ ?_
 intro c8
 exact absurd c8 (by decide)
 intro c8
 refine ae (ah (aa rfl (cz rfl rfl) (aa rfl (ai rfl) (ag (ab ?_)))))
 refine ax rfl ?_ ?_
 intro c10
 exact absurd c10 (by decide)
 intro c10
 refine aB (bF (ab (ae (ah (aa rfl (ac rfl) (am rfl (bz call104 rfl (own _)) ?_))))))
 rintro _ B_ ⟨rfl, hB_⟩
 obtain rfl := hB_.symm
 refine aa rfl (ai rfl) (ag (ab (av (au (.inl rfl) (.cons (ak rfl) .nil) ?_))))
 exact ⟨_, ⟨rfl, rfl⟩, inferInstance⟩
theorem Cc (cb gb i hb : Nat) (a b c d : Nat) (lv : Value) (hi : i < 100) : aC Tryz.prog W0 230 ([pV cb] ++ [] ++ []) (pt cb (aw (jb gb i 0 [wV a, wV b, wV c, wV d] hb lv) 118) :: R)
    (fun v B => v = .tuple #[.int .i64 0, wV i] ∧ B = pt cb (aw (jb gb i 0 [wV a, wV b, wV c, wV d] hb lv) 118) :: R) := by
 simp only [List.append_nil]
 refine aF func230 ntmps230 rfl rfl ?_
 refine ae (ah (aa rfl (ai rfl) (aa rfl (ai rfl) (ag (ab (ae ?_))))))
 refine cY [(cb, 0, _)] 8 cV rfl (aV aK) (fun hS => ?_)
 refine aj 0 rfl rfl (by kernel_rfl) (by kernel_rfl) (by kernel_rfl) rfl hS (ac rfl) ?_
 refine aj 1 rfl rfl (by kernel_rfl) (by kernel_rfl) (by kernel_rfl) rfl hS (aH rfl) ?_
 refine aj 2 rfl rfl (by kernel_rfl) (by kernel_rfl) (by kernel_rfl) rfl hS (ao rfl lD rfl kB rfl (by first | exact Nat.zero_add _ | rfl)) ?_
 refine aj 3 rfl rfl (by kernel_rfl) (by kernel_rfl) (by kernel_rfl) rfl hS (ao rfl lE rfl az rfl (by first | exact Nat.zero_add _ | rfl)) ?_
 refine aj 4 rfl rfl (by kernel_rfl) (by kernel_rfl) (by kernel_rfl) rfl hS (ap aM rfl (aG (k := 0) rfl rfl)) ?_
 refine aj 5 rfl rfl (by kernel_rfl) (by kernel_rfl) (by kernel_rfl) rfl hS (lH jx ou rfl (mX (by omega))) ?_
 refine aj 6 rfl rfl (by kernel_rfl) (by kernel_rfl) (by kernel_rfl) rfl hS (ai rfl) ?_
 refine aj 7 rfl rfl (by kernel_rfl) (by kernel_rfl) (by kernel_rfl) rfl hS (ai rfl) ?_
 refine cg (by kernel_rfl) ?_; clear hS
 refine ab (av (au (.inl rfl) (.cons (ak rfl) (.cons (ak rfl) .nil)) ?_))
 exact ⟨_, ⟨rfl, rfl⟩, inferInstance⟩
theorem Cd (cb gb i hb n : Nat) (a b c d : Nat) (lv : Value) (h2 : n ≠ 2) (h3 : n ≠ 3) : aC Tryz.prog W0 40 [pV cb] (pt cb (aw (jb gb i n [wV a, wV b, wV c, wV d] hb lv) 118) :: R)
    (fun v B => v = .tuple #[] ∧ B = pt cb (aw (jb gb i n [wV a, wV b, wV c, wV d] hb lv) 118) :: R) := by
 refine aF func40 ntmps40 rfl rfl ?_
 refine ae (ah (aa rfl (ac rfl) (aa rfl (aH rfl) ?_)))
 refine aa rfl (ao rfl lD rfl kB rfl (by first | exact Nat.zero_add _ | rfl)) ?_
 refine aa rfl (ao rfl lE rfl dz rfl (by first | exact Nat.zero_add _ | rfl)) ?_
 refine aa rfl (ap je rfl (aA rfl)) ?_
 refine ag (ab (b0 (ae (ah (aa rfl (cz rfl rfl) (aa rfl (ai rfl) (ag (ab ?_))))))))
 refine ax rfl ?_ ?_
 intro c1
 omega
 intro c1
 refine ae (ah (aa rfl (cz rfl rfl) (aa rfl (ai rfl) (ag (ab ?_)))))
 refine ax rfl ?_ ?_
 intro c3
 omega
 intro c3
 refine aB (bF (au (.inr rfl) .nil ?_))
 exact ⟨_, ⟨rfl, rfl⟩, inferInstance⟩
end
theorem rk {gbs : List Nat} {sp : List Value} {i g : Nat} (h : gbs[i]? = some g) : (gbs.map pV ++ sp)[i * 1]? = some (pV g) := by
 obtain ⟨hi, hg⟩ := List.getElem?_eq_some_iff.1 h
 rw [Nat.mul_one, List.getElem?_append_left (by rw [List.length_map]; exact hi)]
 simp [hi, hg]
section
variable {rb vb pv tr : Nat} {cs : List Value}
theorem Ce (W0 : World) (R : List HP) (hb : Nat) (cf : Cfg) (ps pb db qb gb : Nat) (a : Option Addr) (cap : Nat) (gbs : List Nat) (i g : Nat) (hg : gbs[i]? = some g) (hi4 : gbs.length ≤ 4) (rl : List Nat) (pc : Nat) (es : List Evt)
    (h : GC rb vb pv tr cs) (hl : rl.length = 16) (hn : es.length < 4096) (hp : pc < 1000) (hw : rl.getD 1 0 = 0) :
    aC Tryz.prog W0 14 [pV hb, .slice a gbs.length cap, .int .i64 i] (pt hb (aw (dV cf ps pb db qb gb) 68) :: osl 50 1 (.slice a gbs.length cap) (gbs.map pV) :: pt g (eg cs) :: pt rb (dh rl pc) :: dU tr es :: R)
      (fun v B => v = .tuple #[.int .i64 0, .int .i64 0] ∧ B = pt hb (aw (dV cf ps pb db qb gb) 68) :: osl 50 1 (.slice a gbs.length cap) (gbs.map pV) :: pt g (eg cs) :: pt rb (dh (gr rl 0 i) (pc + 4)) :: dU tr (es ++ [⟨2, 0, 0, 0, pc, gr rl 0 i⟩]) :: R) := by
 have hi := (List.getElem?_eq_some_iff.1 hg).1
 refine aF wx ntmps14 rfl rfl ?_
 refine ae (ah (aa rfl (ai rfl) (aa rfl (ai rfl) (ag (ab (ae (ae ?_)))))))
 refine dP (r := osl 50 1) (b := .slice a gbs.length cap) (ge (fun h1 h2 => by have := congrArg List.length h2; rw [List.length_map, List.length_nil] at this; omega) fun lg nn c2 sp h1 h2 h3 h4 h5 => ?_)
 cases h1
 refine ah (aa rfl (ac rfl) (am rfl (bz io rfl (mo hb cf ps pb db qb gb)) ?_))
 rintro _ B_ ⟨rfl, hB_⟩
 obtain rfl := hB_.symm
 refine aa rfl (ac rfl) ?_
 refine bA rfl rfl rfl ?_ ?_
 intro g1_3
 exact absurd g1_3 (by decide)
 intro g1_3
 refine aa rfl (ac rfl) (ar rfl rfl (aa rfl (aY rfl rfl) (aa rfl (aJ rfl rfl) (aa rfl (ac rfl) ?_))))
 refine bA rfl rfl rfl ?_ ?_
 intro g1_7
 omega
 intro g1_7
 refine aa rfl (ac rfl) (ar rfl rfl (aa rfl (ac rfl) (ar rfl rfl (aa rfl (bq hJ rfl) (ar rfl rfl (aa rfl (cF rfl rfl) (aa rfl (aJ rfl rfl) (aa rfl (ac rfl) ?_))))))))
 refine bA rfl rfl rfl ?_ ?_
 intro g1_13
 omega
 intro g1_13
 refine aa rfl (ac rfl) (ar rfl rfl (aa rfl (ac rfl) (ar rfl rfl ?_)))
 refine aa rfl (bY hJ iJ rfl rfl rfl hi (by first | exact Nat.zero_add _ | rfl)) ?_
 refine ar rfl rfl (aa rfl (ap jF rfl (aA (rk hg))) ?_)
 refine ar rfl rfl (aa rfl (dl rU rfl rfl) (aa rfl (aJ rfl rfl) (ag (ab ?_))))
 refine ax rfl ?_ ?_
 intro c1
 cases c1
 intro c1
 refine aB (ab (ae (ah (aa rfl (ac rfl) (aa rfl (ac rfl) ?_)))))
 refine aa rfl (bY hJ iJ rfl rfl rfl hi (by first | exact Nat.zero_add _ | rfl)) ?_
 refine aa rfl (ap jF rfl (aA (rk hg))) ?_
 refine am rfl (gN call37 rfl (Ca g rl pc h hl)) ?_
 rintro _ B_ ⟨rfl, hB_⟩
 obtain rfl := hB_.symm
 rw [hw]
 refine aa rfl (ac rfl) (aa rfl (aZ rfl rfl) (aa rfl (aZ rfl rfl) (am rfl (dd rQ) ?_)))
 rintro _ _ ⟨b9, rfl, rfl⟩
 refine aa rfl (ai rfl) (bE (cK iV rfl rfl rfl rfl rfl) ?_)
 rintro _ _ rfl
 refine ag (ab (ae ?_))
 refine cY [(lg, 0, _), (b9, 0, _)] 13 cV rfl (aV (aV aK)) (fun hS => ?_)
 refine aj 0 rfl rfl (by kernel_rfl) (by kernel_rfl) (by kernel_rfl) rfl hS (ac rfl) ?_
 refine aj 1 rfl rfl (by kernel_rfl) (by kernel_rfl) (by kernel_rfl) rfl hS (ac rfl) ?_
 refine aj 2 rfl rfl (by kernel_rfl) (by kernel_rfl) (by kernel_rfl) rfl hS (bY hJ iJ rfl rfl rfl hi (by first | exact Nat.zero_add _ | rfl)) ?_
 refine aj 3 rfl rfl (by kernel_rfl) (by kernel_rfl) (by kernel_rfl) rfl hS (ap jF rfl (aG (k := 0) rfl (rk hg))) ?_
 refine aj 4 rfl rfl (by kernel_rfl) (by kernel_rfl) (by kernel_rfl) rfl hS (ac rfl) ?_
 refine aj 5 rfl rfl (by kernel_rfl) (by kernel_rfl) (by kernel_rfl) rfl hS (ac rfl) ?_
 refine aj 6 rfl rfl (by kernel_rfl) (by kernel_rfl) (by kernel_rfl) rfl hS (cQ ww iV rfl (dA (k := 1) rfl) rfl) ?_
 refine aj 7 rfl rfl (by kernel_rfl) (by kernel_rfl) (by kernel_rfl) rfl hS (bQ lE zeroValue116 (aE iJ (aE az (aE dz (aE iV (aE az bP))))) (bn rfl iJ rfl rfl (Nat.le_of_ble_eq_true rfl) SetL.eq (bn rfl az rfl rfl (Nat.le_of_ble_eq_true rfl) SetL.eq (bn rfl dz rfl rfl (Nat.le_of_ble_eq_true rfl) SetL.eq (it rfl iV rfl rfl (Nat.le_of_ble_eq_true rfl) SetRL.eq bO))))) ?_
 refine aj 8 rfl rfl (by kernel_rfl) (by kernel_rfl) (by kernel_rfl) rfl hS (ac rfl) ?_
 refine aj 9 rfl rfl (by kernel_rfl) (by kernel_rfl) (by kernel_rfl) rfl hS (ac rfl) ?_
 refine aj 10 rfl rfl (by kernel_rfl) (by kernel_rfl) (by kernel_rfl) rfl hS (bQ lD zeroValue118 (aE kB (aE sizeOf30 (aE sizeOf31 bP))) (it rfl kB rfl rfl (Nat.le_of_ble_eq_true rfl) SetRL.eq (bn rfl sizeOf30 rfl rfl (Nat.le_of_ble_eq_true rfl) SetL.eq (bn rfl sizeOf31 rfl rfl (Nat.le_of_ble_eq_true rfl) SetL.eq bO)))) ?_
 refine bB 11 (by kernel_rfl) rfl rfl (bL rfl) rfl ?_; clear hS
 rintro _ _ ⟨cb, rfl, rfl⟩
 refine ⟨(aV (aV aK)), fun hS => ?_⟩
 refine aj 12 rfl rfl (by kernel_rfl) (by kernel_rfl) (by kernel_rfl) rfl hS (ai rfl) ?_
 refine cg (by kernel_rfl) ?_; clear hS
 refine ab (ae (iu (b := cb) (o' := aw (jb g i 0 [wV (rl.getD 2 0), wV (rl.getD 3 0), wV (rl.getD 4 0), wV (rl.getD 5 0)] hb (.slice (some ⟨lg, 0, none⟩) gbs.length cap)) 118) rfl ?_))
 refine ah (aa rfl (ac rfl) (am rfl (bz call38 rfl (Cb cb g i hb _ _ _ _ _)) ?_))
 rintro _ B_ ⟨rfl, hB_⟩
 obtain rfl := hB_.symm
 refine aa rfl (ai rfl) (ag (ab (ae (ah (aa rfl (ac rfl) ?_)))))
 refine am rfl (p7 (us := [pV cb]) (cs := []) rfl call230 rfl (Cc cb g i hb _ _ _ _ _ (by omega))) ?_
 rintro _ B_ ⟨rfl, hB_⟩
 obtain rfl := hB_.symm
 refine aa rfl (ac rfl) (aa rfl (aZ rfl rfl) (aa rfl (aZ rfl rfl) (aa rfl (ai rfl) (aa rfl (ai rfl) (ag (ab (ae (ae (ah (aa rfl (ac rfl) (aa rfl (co rfl rfl) (aa rfl (ac rfl) ?_))))))))))))
 refine cG rfl rfl rfl ?_ ?_
 intro g7_3
 exact absurd g7_3 (by decide)
 intro g7_3
 refine al rfl rfl rfl rfl (aa rfl (aJ rfl rfl) (ag (ab (eL rfl (aB (ab (ae (ah (aa rfl (ac rfl) (aa rfl (aH rfl) ?_))))))))))
 refine aa rfl (ao rfl lD rfl kB rfl (by first | exact Nat.zero_add _ | rfl)) ?_
 refine aa rfl (ao rfl lE rfl iJ rfl (by first | exact Nat.zero_add _ | rfl)) ?_
 refine aa rfl (ap jF rfl (aA rfl)) ?_
 refine aa rfl (ac rfl) (aa rfl (ac rfl) ?_)
 refine am rfl (kG call39 rfl (C8 g rl pc es 0 i h hl hn (by decide) hp)) ?_
 rintro _ B_ ⟨rfl, hB_⟩
 obtain rfl := hB_.symm
 rw [hw]
 refine ag (ab (ae (ah (aa rfl (ac rfl) ?_))))
 refine am rfl (bz call40 rfl (Cd cb g i hb 0 _ _ _ _ _ (by decide) (by decide))) ?_
 rintro _ B_ ⟨rfl, hB_⟩
 obtain rfl := hB_.symm
 refine ag (ab (ae ?_))
 refine cY [(cb, 0, _)] 8 cV rfl (aV aK) (fun hS => ?_)
 refine aj 0 rfl rfl (by kernel_rfl) (by kernel_rfl) (by kernel_rfl) rfl hS (ac rfl) ?_
 refine aj 1 rfl rfl (by kernel_rfl) (by kernel_rfl) (by kernel_rfl) rfl hS (ac rfl) ?_
 refine aj 2 rfl rfl (by kernel_rfl) (by kernel_rfl) (by kernel_rfl) rfl hS (aH rfl) ?_
 refine aj 3 rfl rfl (by kernel_rfl) (by kernel_rfl) (by kernel_rfl) rfl hS (ao rfl lD rfl kB rfl (by first | exact Nat.zero_add _ | rfl)) ?_
 refine aj 4 rfl rfl (by kernel_rfl) (by kernel_rfl) (by kernel_rfl) rfl hS (ao rfl lE rfl az rfl (by first | exact Nat.zero_add _ | rfl)) ?_
 refine aj 5 rfl rfl (by kernel_rfl) (by kernel_rfl) (by kernel_rfl) rfl hS (ap aM rfl (aG (k := 0) rfl rfl)) ?_
 refine aj 6 rfl rfl (by kernel_rfl) (by kernel_rfl) (by kernel_rfl) rfl hS (ai rfl) ?_
 refine aj 7 rfl rfl (by kernel_rfl) (by kernel_rfl) (by kernel_rfl) rfl hS (ai rfl) ?_
 refine cg (by kernel_rfl) ?_; clear hS
 refine ab (av (au (.inl rfl) (.cons (ak rfl) (.cons (ak rfl) .nil)) ?_))
 refine ⟨_, ⟨rfl, rfl⟩, ?_⟩
 have e := eP (E := 50) (sz := 1) (g := lg) (n := gbs.length) (cap := cap) (xs := gbs.map pV) (sp := sp) (A := pt lg (aw (gbs.map pV ++ sp) 50) :: pt g (eg cs) :: pt rb (dh (gr rl 0 i) (pc + 4)) :: dU tr (es ++ [⟨2, 0, 0, 0, pc, gr rl 0 i⟩]) :: R) (B := pt g (eg cs) :: pt rb (dh (gr rl 0 i) (pc + 4)) :: dU tr (es ++ [⟨2, 0, 0, 0, pc, gr rl 0 i⟩]) :: R) h2 h3 (by rw [List.length_map]; omega) h5
 exact (inferInstance : Ent _ (pt hb (aw (dV cf ps pb db qb gb) 68) :: pt lg (aw (gbs.map pV ++ sp) 50) :: pt g (eg cs) :: pt rb (dh (gr rl 0 i) (pc + 4)) :: dU tr (es ++ [⟨2, 0, 0, 0, pc, gr rl 0 i⟩]) :: R)).trans (Ent.cons e)
def iE (rl : List Nat) (n : Nat) (x : List Nat) : Nat → List Nat
 | 0 => rl.set 1 n
 | k + 1 => (iE rl n x k).set (k + 2) (x.getD k 0)
theorem vq {rl : List Nat} {n : Nat} {x : List Nat} (h : rl.length = 16) : ∀ k, (iE rl n x k).length = 16
 | 0 => by rw [iE, List.length_set]; exact h
 | k + 1 => by rw [iE, List.length_set]; exact vq h k
theorem Cf (W0 : World) (R : List HP) (g : Nat) (rl : List Nat) (pc n : Nat) (x : List Nat) (hx : x.length = 4) (h : GC rb vb pv tr cs) (hl : rl.length = 16) :
    aC Tryz.prog W0 13 [pV g, wV n, .agg (x.map wV).toArray] (pt g (eg cs) :: pt rb (dh rl pc) :: R) (fun v B => v = .tuple #[] ∧ B = pt g (eg cs) :: pt rb (dh (iE rl n x 4) pc) :: R) := by
 refine aF func13 ntmps13 rfl rfl ?_
 refine ae (ah (am rfl (bL rfl) ?_))
 rintro _ _ ⟨b5, rfl, rfl⟩
 refine ag (ab (ae (ah (aa rfl (ac rfl) (aa rfl (ac rfl) ?_)))))
 refine am rfl (gN call35 rfl (vp g rl pc 1 n h hl (by decide) (by decide))) ?_
 rintro _ B_ ⟨rfl, hB_⟩
 obtain rfl := hB_.symm
 refine ag (ab (ae (ah (aa rfl (ai rfl) (ag (ab (b0 ?_)))))))
 refine cC (fun k : Nat => k ≤ 4) (fun k => [(0, pV g), (5, pV b5), (6, .int .i64 k)]) (fun k => pt b5 (aw (x.map wV) 43) :: pt g (eg cs) :: pt rb (dh (iE rl n x k) pc) :: R) (fun k => 4 - k) 0 ?_ ?_ ?_ ?_
 exact Nat.zero_le _
 · repeat (first | exact aX | refine aU rfl ?_)
 rw [show iE rl n x 0 = rl.set 1 n from rfl]
 exact inferInstance
 intro k hk
 refine ae (ae (ah (aa rfl (ac rfl) (aa rfl (aY rfl rfl) (ag (ab ?_))))))
 refine ax rfl ?_ ?_
 intro c3
 refine aB (ab (ae (b0 ?_)))
 have hk1 : k < 4 := by omega
 have hg : (x.map wV)[k * 1]? = some (wV (x.getD k 0)) := by
  rw [Nat.mul_one]; simp [List.getD, show k < x.length by omega]
 refine ah (aa rfl (ac rfl) (aa rfl (ac rfl) ?_))
 refine aa rfl (bC rfl rfl (by rw [aW (by omega)]; omega : IntKind.wrap .i64 ((k : Int) + 2) = ((k + 2 : Nat) : Int))) ?_
 refine aa rfl (ac rfl) ?_
 refine aa rfl (fk rP dz rfl rfl rfl hk1 (by first | exact Nat.zero_add _ | rfl)) ?_
 refine aa rfl (ap je rfl (aA hg)) ?_
 refine am rfl (gN call35 rfl (vp g (iE rl n x k) pc (k + 2) (x.getD k 0) h (vq hl k) (by omega) (by omega))) ?_
 rintro _ B_ ⟨rfl, hB_⟩
 obtain rfl := hB_.symm
 refine ag (bF (ab (ah (aa rfl (ac rfl) ?_))))
 refine aa rfl (bC rfl rfl (by first | exact aW (by omega) | rfl)) ?_
 refine aa rfl (ai rfl) (ag (ab ?_))
 refine cp (k + 1) ?_ ?_ ?_ ?_
 omega
 omega
 · repeat (first | exact aX | refine aU rfl ?_)
 rw [show iE rl n x (k + 1) = (iE rl n x k).set (k + 2) (x.getD k 0) from rfl]
 exact inferInstance
 intro c3
 refine bX (bi (bi (bZ (au (.inr rfl) .nil ?_))))
 obtain rfl : k = 4 := by omega
 exact ⟨_, ⟨rfl, rfl⟩, inferInstance⟩
end
@[reducible] def eh (b1 b2 b3 b4 b5 : Nat) : Cfg := ⟨1, some ⟨b1, 0, none⟩, 2, [(1, 4, 2), (0, 4, 0)], some ⟨b2, 0, none⟩, 1, [(0, 0, 4)], some ⟨b3, 0, none⟩, 2, [(1, 0), (0, 1)], some ⟨b4, 0, none⟩, 1, [(1, 0)], some ⟨b5, 0, none⟩, 1, [(0, 1)], 0, 8⟩
@[reducible] def mp (b1 b2 b3 b4 b5 : Nat) (R : List HP) : List HP := pt b1 (aw ([(1, 4, 2), (0, 4, 0)].flatMap dZ) 85) :: pt b2 (aw ([(0, 0, 4)].flatMap dZ) 144) :: pt b3 (aw ([(1, 0), (0, 1)].flatMap dS) 146) :: pt b4 (aw ([(1, 0)].flatMap dS) 61) :: pt b5 (aw ([(0, 1)].flatMap dS) 87) :: R
theorem vr (b1 b2 b3 b4 b5 : Nat) : rt (eh b1 b2 b3 b4 b5) = true := by kernel_rfl
theorem rm : aC Tryz.prog W0 18 [] R (fun v B => ∃ b1 b2 b3 b4 b5, v = .agg (cj (eh b1 b2 b3 b4 b5)).toArray ∧ B = mp b1 b2 b3 b4 b5 R) := by
 refine aF func18 ntmps18 rfl rfl ?_
 refine ae (ah (am rfl (dd rW) ?_))
 rintro _ _ ⟨b1, rfl, rfl⟩
 refine ag (ab (ae (ah (aa rfl (bQ dO lq (aE az (aE az (aE az bP))) (bn rfl az rfl rfl (Nat.le_of_ble_eq_true rfl) SetL.eq (bn rfl az rfl rfl (Nat.le_of_ble_eq_true rfl) SetL.eq (bn rfl az rfl rfl (Nat.le_of_ble_eq_true rfl) SetL.eq bO)))) ?_))))
 refine aa rfl (bQ dO lq (aE az (aE az (aE az bP))) (bn rfl az rfl rfl (Nat.le_of_ble_eq_true rfl) SetL.eq bO)) ?_
 refine am rfl (fN dj ej lq rfl (eM rfl rfl (eM rfl rfl fM)) rfl (by decide) (by decide) (by decide)) ?_
 rintro _ _ ⟨b1, rfl, rfl⟩
 refine aa rfl (bQ gW oD (aE az (aE az (aE az bP))) (bn rfl az rfl rfl (Nat.le_of_ble_eq_true rfl) SetL.eq (bn rfl az rfl rfl (Nat.le_of_ble_eq_true rfl) SetL.eq bO))) ?_
 refine am rfl (fN g5 gV oD rfl (eM rfl rfl fM) rfl (by decide) (by decide) (by decide)) ?_
 rintro _ _ ⟨b2, rfl, rfl⟩
 refine aa rfl (bQ eB jy (aE az (aE az bP)) (bn rfl az rfl rfl (Nat.le_of_ble_eq_true rfl) SetL.eq bO)) ?_
 refine aa rfl (bQ eB jy (aE az (aE az bP)) (bn rfl az rfl rfl (Nat.le_of_ble_eq_true rfl) SetL.eq bO)) ?_
 refine am rfl (fN eT eN jy rfl (eM rfl rfl (eM rfl rfl fM)) rfl (by decide) (by decide) (by decide)) ?_
 rintro _ _ ⟨b3, rfl, rfl⟩
 refine aa rfl (bQ fw mz (aE az (aE az bP)) (bn rfl az rfl rfl (Nat.le_of_ble_eq_true rfl) SetL.eq (bn rfl az rfl rfl (Nat.le_of_ble_eq_true rfl) SetL.eq bO))) ?_
 refine am rfl (fN fv gt mz rfl (eM rfl rfl fM) rfl (by decide) (by decide) (by decide)) ?_
 rintro _ _ ⟨b4, rfl, rfl⟩
 refine aa rfl (bQ lu rE (aE az (aE az bP)) (bn rfl az rfl rfl (Nat.le_of_ble_eq_true rfl) SetL.eq bO)) ?_
 refine am rfl (fN jA lr rE rfl (eM rfl rfl fM) rfl (by decide) (by decide) (by decide)) ?_
 rintro _ _ ⟨b5, rfl, rfl⟩
 refine aa rfl (bQ bw rW (aE az (aE du (aE ie (aE fh (aE fg (aE iS (aE az (aE az bP)))))))) (bn rfl az rfl rfl (Nat.le_of_ble_eq_true rfl) SetL.eq (bn rfl du rfl rfl (Nat.le_of_ble_eq_true rfl) SetL.eq (bn rfl ie rfl rfl (Nat.le_of_ble_eq_true rfl) SetL.eq (bn rfl fh rfl rfl (Nat.le_of_ble_eq_true rfl) SetL.eq (bn rfl fg rfl rfl (Nat.le_of_ble_eq_true rfl) SetL.eq (bn rfl iS rfl rfl (Nat.le_of_ble_eq_true rfl) SetL.eq (bn rfl az rfl rfl (Nat.le_of_ble_eq_true rfl) SetL.eq bO)))))))) ?_
 refine bE (cK bS rfl rfl rfl rfl rfl) ?_
 rintro _ _ rfl
 refine ag (ab (av (iu (b := b1) (o' := aw ([(1, 4, 2), (0, 4, 0)].flatMap dZ) 85) rfl ?_)))
 refine iu (b := b2) (o' := aw ([(0, 0, 4)].flatMap dZ) 144) rfl ?_
 refine iu (b := b3) (o' := aw ([(1, 0), (0, 1)].flatMap dS) 146) rfl ?_
 refine iu (b := b4) (o' := aw ([(1, 0)].flatMap dS) 61) rfl ?_
 refine iu (b := b5) (o' := aw ([(0, 1)].flatMap dS) 87) rfl ?_
 refine au (.inl rfl) (.cons (fj cm bS rfl rfl) .nil) ?_
 exact ⟨_, ⟨b1, b2, b3, b4, b5, rfl, rfl⟩, inferInstance⟩
theorem vt {W0 W : World} {b1 b2 b3 b4 b5 : Nat} {R : List HP} (hO : Own W0 W (mp b1 b2 b3 b4 b5 R)) : CfK W (eh b1 b2 b3 b4 b5) :=
  ⟨⟨ma hO (jk (b := b1) (fun _ => rfl) rfl), ma hO (jk (b := b2) (fun _ => rfl) rfl), ma hO (jk (b := b3) (fun _ => rfl) rfl), ma hO (jk (b := b4) (fun _ => rfl) rfl), ma hO (jk (b := b5) (fun _ => rfl) rfl), Nat.le_refl _⟩, Nat.le_refl _⟩
def Zo (o : Obj) (p : Option Addr) (A : List HP) : Prop := p = none ∨ ∃ b, p = some ⟨b, 0, none⟩ ∧ Ent A [pt b o]
theorem Zo.cons {o : Obj} {p : Option Addr} {A : List HP} {c : HP} (h : Zo o p A) : Zo o p (c :: A) := by
 rcases h with h | ⟨b, h1, h2⟩
 exact .inl h
 exact .inr ⟨b, h1, Ent.drop.trans h2⟩
theorem Cg {W0 : World} {A : List HP} {b off ty : Nat} {l : List Value} {v : Value} (h : Ent A [pt b (aw l ty)]) (hv : l[off]? = some v) : gA (bI W0 A) b off v :=
  gA.weak (B := [pt b (aw l ty)]) (aA (R := []) hv)
end
end Go.Proofs.YtofillmoflhijaaGreat
